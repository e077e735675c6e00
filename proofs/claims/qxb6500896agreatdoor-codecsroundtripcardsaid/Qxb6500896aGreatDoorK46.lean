import Derived.Test.Qxb6500896aGreatDoorK45
import Derived.Test.Qxb6500896aGreatDoorGk
namespace Go.Proofs.Qxb6500896aGreatDoor
open Go.Sh Go.RowKit
set_option linter.unusedVariables false
set_option linter.unusedSimpArgs false

def rLnsN : Nat → RS → List (List Int) × RS
  | 0, s => ([], s)
  | n + 1, s => ((rIds s).1 :: (rLnsN n (rIds s).2).1, (rLnsN n (rIds s).2).2)
def img0 : Img := ⟨0, 0, 0, [], []⟩
def decI (s : RS) : Img × RS :=
  (⟨((rNum s).1 : Nat), ((rNum (rNum s).2).1 : Nat), ((rNum (rNum (rNum s).2).2).1 : Nat), (rRecs (rNum (rNum (rNum s).2).2).2).1, (rLnsN (rCount 1 (rRecs (rNum (rNum (rNum s).2).2).2).2).1 (rCount 1 (rRecs (rNum (rNum (rNum s).2).2).2).2).2).1⟩,
   (rLnsN (rCount 1 (rRecs (rNum (rNum (rNum s).2).2).2).2).1 (rCount 1 (rRecs (rNum (rNum (rNum s).2).2).2).2).2).2)
/-- a snapshot from its bytes -/
def decImg (bs : List Int) : Img × Bool :=
  if (rOct (bs, false)).1 = 1 then (if rDone (decI (rOct (bs, false)).2).2 = true then ((decI (rOct (bs, false)).2).1, true) else (img0, false)) else (img0, false)
theorem rNum_le (s : RS) : (rNum s).2.1.length ≤ s.1.length := by
  rw [rNum_eq]
  split
  · simp only [List.length_drop]; omega
  · simp
theorem rUp_le (m : Nat) (s : RS) : (rUp m s).2.1.length ≤ s.1.length := by
  unfold rUp
  split
  · simp
  · exact rNum_le s
theorem rIdsN_le : ∀ (n : Nat) (s : RS), (rIdsN n s).2.1.length ≤ s.1.length
  | 0, s => Nat.le_refl _
  | n + 1, s => by
    have h1 := rNum_le s
    have h2 := rIdsN_le n (rNum s).2
    show (rIdsN n (rNum s).2).2.1.length ≤ _
    omega
theorem rIds_le (s : RS) : (rIds s).2.1.length ≤ s.1.length := by
  have h1 := rUp_le (s.1.length / 1) s
  unfold rIds rCount
  split
  · exact h1
  · have := rIdsN_le (rUp (s.1.length / 1) s).1 (rUp (s.1.length / 1) s).2; omega
theorem rLegsN_le : ∀ (n : Nat) (s : RS), (rLegsN n s).2.1.length ≤ s.1.length
  | 0, s => Nat.le_refl _
  | n + 1, s => by
    have h1 := rNum_le s
    have h2 := rNum_le (rNum s).2
    have h3 := rLegsN_le n (rNum (rNum s).2).2
    show (rLegsN n (rNum (rNum s).2).2).2.1.length ≤ _
    omega
theorem rLegs_le (m : Nat) (s : RS) : (rLegs m s).2.1.length ≤ s.1.length := by
  have h1 := rUp_le m s
  unfold rLegs
  split
  · exact h1
  · have := rLegsN_le (rUp m s).1 (rUp m s).2; omega
section
theorem rRec_le (s : RS) : (rRec s).2.1.length ≤ s.1.length := by
  have h1 := rNum_le s
  have h2 := rUp_le 9 (rNum s).2
  have h3 := rNum_le (rUp 9 (rNum s).2).2
  have h4 := rNum_le (rNum (rUp 9 (rNum s).2).2).2
  have h5 := rNum_le (rNum (rNum (rUp 9 (rNum s).2).2).2).2
  have h6 := rNum_le (rNum (rNum (rNum (rUp 9 (rNum s).2).2).2).2).2
  have h7 := rLegs_le 8 (rNum (rNum (rNum (rNum (rUp 9 (rNum s).2).2).2).2).2).2
  show (rLegs 8 (rNum (rNum (rNum (rNum (rUp 9 (rNum s).2).2).2).2).2).2).2.1.length ≤ _
  omega
end
theorem rRecsN_le : ∀ (n : Nat) (s : RS), (rRecsN n s).2.1.length ≤ s.1.length
  | 0, s => Nat.le_refl _
  | n + 1, s => by
    have h1 := rRec_le s
    have h2 := rRecsN_le n (rRec s).2
    show (rRecsN n (rRec s).2).2.1.length ≤ _
    omega
theorem rRecs_le (s : RS) : (rRecs s).2.1.length ≤ s.1.length := by
  have h1 := rUp_le (s.1.length / 7) s
  unfold rRecs rCount
  split
  · exact h1
  · have := rRecsN_le (rUp (s.1.length / 7) s).1 (rUp (s.1.length / 7) s).2; omega
section
variable {F S : Nat → Prop} {w w' : World} {v : Value} {rb wb t2 t5 n : Nat} {s : RS} {K : Value → World → Prop} {cells : List Value}
theorem dec_lines (h : Rd F w rb s) (hsl : s.1.length ≤ 1000000000) (hF : ∀ b, F b → b < w.heap.size) (hFw : ¬ F wb) (r5 : Row w t5 141 cells) (h5 : cells[4]? = some (.slice (some ⟨wb, 0, none⟩) n n)) (hnl : n ≤ 1000000000) (rwb : Row w wb 43 (List.replicate n nilS))
    (hK : ∀ (w' : World) (lms : List Lm), Rd F w' rb (rLnsN n s).2 → lms.map Lm.ids = (rLnsN n s).1 → Row w' wb 43 (lms.map Lm.val) → (∀ p ∈ lms, Sl iC 1 w' 3 p.blk p.val p.ids ∧ ∀ b, p.blk = some b → Nb w w' b) → lms.Pairwise (fun p q => ∀ b, p.blk = some b → q.blk ≠ some b) → Kp (fun b => b = rb ∨ b = wb) w w' → s83R_p1 K (P t2 0) (P rb 0) (P t5 0) w') :
    s83R_p6 K (P t2 0) (P rb 0) (P t5 0) (I (n : Nat)) (I 0) w := by
  have hrl := h.lt
  have hwl := rwb.lt
  have h5l := r5.lt
  obtain ⟨bv0, pre0, rr0, _⟩ := id h
  have n1 : rb ≠ wb := row_ne rr0 rwb (by decide)
  have n2 : t5 ≠ wb := row_ne r5 rwb (by decide)
  have n3 : t5 ≠ rb := row_ne r5 rr0 (by decide)
  unfold s83R_p6
  refine loop_n n (fun i l w' => ∃ (lms : List Lm) (si : RS), l = [P t2 0, P rb 0, P t5 0, I (n : Nat), I (i : Nat)] ∧ Rd F w' rb si ∧ si.1.length ≤ 1000000000 ∧ lms.length = i ∧ Row w' wb 43 (lms.map Lm.val ++ List.replicate (n - i) nilS) ∧ (∀ p ∈ lms, Sl iC 1 w' 3 p.blk p.val p.ids ∧ ∀ b, p.blk = some b → Nb w w' b) ∧ lms.Pairwise (fun p q => ∀ b, p.blk = some b → q.blk ≠ some b)
      ∧ rLnsN n s = (lms.map Lm.ids ++ (rLnsN (n - i) si).1, (rLnsN (n - i) si).2) ∧ Kp (fun b => b = rb ∨ b = wb) w w') ⟨[], s, rfl, h, hsl, rfl, by simpa using rwb, (fun p hp => by cases hp), List.Pairwise.nil, rfl, Kp.refl _ _⟩ ?_ ?_
  · rintro i l w3 hi ⟨lms, si, rfl, r3, hsi, hd, rw3, hls, hpw, he, hk3⟩ B hB
    have sz3 := hk3.size
    rw [s83R_p6_Fe]
    unfold s83R_p5
    try simp only [e_fd, e_nck, e_pkt, e_pkf, e_gdtt, e_gdtf, e_gdft, e_gdff, e_ift, e_iff, e_not, e_ln, e_lnT, e_cp, e_cvi, e_ex20, e_ex21, e_ex30, e_ex31, e_ex32, e_add, e_sub, e_mul, e_quo, e_rem, e_and, e_or, e_xor, e_shl, e_shr, e_eql, e_neq, e_lss, e_leq, e_gtr, e_geq, e_beq, e_bne, e_peq1, e_peq2, e_pne1, e_pne2, e_zeq1, e_zeq2, e_zne1, e_zne2, e_feq1, e_fne1, e_feq2, e_fne2, e_seq, e_sne, e_ta1, e_ta2, Nat.zero_add, Nat.add_zero, Bool.not_true, Bool.not_false]
    rw [dlt hi]
    try simp only [e_fd, e_nck, e_pkt, e_pkf, e_gdtt, e_gdtf, e_gdft, e_gdff, e_ift, e_iff, e_not, e_ln, e_lnT, e_cp, e_cvi, e_ex20, e_ex21, e_ex30, e_ex31, e_ex32, e_add, e_sub, e_mul, e_quo, e_rem, e_and, e_or, e_xor, e_shl, e_shr, e_eql, e_neq, e_lss, e_leq, e_gtr, e_geq, e_beq, e_bne, e_peq1, e_peq2, e_pne1, e_pne2, e_zeq1, e_zeq2, e_zne1, e_zne2, e_feq1, e_fne1, e_feq2, e_fne2, e_seq, e_sne, e_ta1, e_ta2, Nat.zero_add, Nat.add_zero, Bool.not_true, Bool.not_false]
    unfold s83R_p4 s83R_p3 s83R_p3_d
    have kd : Kp Emp w3 (drw w3) := kp_drw
    have szd : (drw w3).heap.size = w3.heap.size := rfl
    generalize drw w3 = w4 at kd szd ⊢
    have r5' : Row w4 t5 141 cells := kd.row' (hk3.row r5 (by omega))
    refine ⟨fun w' => Row w' t5 141 cells, r5', ?_⟩
    try simp only [e_fd, e_nck, e_pkt, e_pkf, e_gdtt, e_gdtf, e_gdft, e_gdff, e_ift, e_iff, e_not, e_ln, e_lnT, e_cp, e_cvi, e_ex20, e_ex21, e_ex30, e_ex31, e_ex32, e_add, e_sub, e_mul, e_quo, e_rem, e_and, e_or, e_xor, e_shl, e_shr, e_eql, e_neq, e_lss, e_leq, e_gtr, e_geq, e_beq, e_bne, e_peq1, e_peq2, e_pne1, e_pne2, e_zeq1, e_zeq2, e_zne1, e_zne2, e_feq1, e_fne1, e_feq2, e_fne2, e_seq, e_sne, e_ta1, e_ta2, Nat.zero_add, Nat.add_zero, Bool.not_true, Bool.not_false]
    refine ⟨_, fun w' hJ => ld1_r hJ h5 ⟨rfl, rfl⟩, ?_⟩
    refine ixw hi ?_
    refine rids_ok (r3.kp' kd) hsi (fun b q => by have := hF b q; omega) fun w5 v5 ob5 r6 s5 ho5 hk5 => ⟨hk5.row r5' (by omega), ?_⟩
    have sz5 := hk5.size
    have rw5 := hk5.row (kd.row' rw3) (by omega)
    refine st1_r rw5 (by simp; omega) (sl_scal s5) fun w6 rw6 hk6 hz6 => ?_
    unfold s83R_p2
    try simp only [e_fd, e_nck, e_pkt, e_pkf, e_gdtt, e_gdtf, e_gdft, e_gdff, e_ift, e_iff, e_not, e_ln, e_lnT, e_cp, e_cvi, e_ex20, e_ex21, e_ex30, e_ex31, e_ex32, e_add, e_sub, e_mul, e_quo, e_rem, e_and, e_or, e_xor, e_shl, e_shr, e_eql, e_neq, e_lss, e_leq, e_gtr, e_geq, e_beq, e_bne, e_peq1, e_peq2, e_pne1, e_pne2, e_zeq1, e_zeq2, e_zne1, e_zne2, e_feq1, e_fne1, e_feq2, e_fne2, e_seq, e_sne, e_ta1, e_ta2, Nat.zero_add, Nat.add_zero, Bool.not_true, Bool.not_false]
    rw [inc i (by omega)]
    have nwb : ∀ {ob : Option Nat} {v : Value} {l : List Int}, Sl iC 1 w5 3 ob v l → ∀ b, ob = some b → ¬ b = wb := fun s b e q => by
      obtain ⟨l2, hl2⟩ := s.row e
      exact row_ne hl2 rw5 (by decide) q
    have hrl2 := rIds_le si
    refine hB _ w6 ⟨lms ++ [⟨(rIds si).1, v5, ob5⟩], (rIds si).2, rfl, r6.kp hk6 (fun b q e => hFw (e ▸ q)) n1, by omega, by rw [List.length_append, hd]; rfl, ?_, fun p hp => ?_, ?_, ?_, ?_⟩
    · rw [List.set_append_right _ _ (by rw [List.length_map]; omega), List.length_map, hd, Nat.sub_self, show n - i = (n - (i + 1)) + 1 by omega, List.replicate_succ, List.set_cons_zero] at rw6
      rw [List.map_append, List.append_assoc]
      exact rw6
    · rcases List.mem_append.1 hp with q | q
      · obtain ⟨g1, g2⟩ := hls p q
        have g3 : Sl iC 1 w5 3 p.blk p.val p.ids := (g1.kp' kd).kp hk5 fun b e (e2 : b = rb) => by have := (g2 b e).1; omega
        exact ⟨g3.kp hk6 (nwb g3), fun b e => ⟨(g2 b e).1, by have := (g2 b e).2; omega⟩⟩
      · have : p = ⟨(rIds si).1, v5, ob5⟩ := by simpa using q
        rw [this]
        exact ⟨s5.kp hk6 (nwb s5), fun b e => ⟨by have := (ho5 b e).1; omega, by have := (ho5 b e).2; omega⟩⟩
    · rw [List.pairwise_append]
      refine ⟨hpw, List.pairwise_singleton _ _, fun p hp q hq b e e2 => ?_⟩
      have hq' : q = ⟨(rIds si).1, v5, ob5⟩ := by simpa using hq
      rw [hq'] at e2
      have := (hls p hp).2 b e
      have := this.2
      have := (ho5 b e2).1
      omega
    · rw [he, show n - i = (n - (i + 1)) + 1 by omega, rLnsN, List.map_append, List.append_assoc]
      rfl
    · exact ((hk3.trans kd.none).trans (hk5.mono fun b _ q => .inl q)).trans (hk6.mono fun b _ q => .inr q)
  · rintro l w3 ⟨lms, si, rfl, r3, hsi, hd, rw3, hls, hpw, he, hk3⟩ B
    rw [s83R_p6_Fe]
    unfold s83R_p5
    try simp only [e_fd, e_nck, e_pkt, e_pkf, e_gdtt, e_gdtf, e_gdft, e_gdff, e_ift, e_iff, e_not, e_ln, e_lnT, e_cp, e_cvi, e_ex20, e_ex21, e_ex30, e_ex31, e_ex32, e_add, e_sub, e_mul, e_quo, e_rem, e_and, e_or, e_xor, e_shl, e_shr, e_eql, e_neq, e_lss, e_leq, e_gtr, e_geq, e_beq, e_bne, e_peq1, e_peq2, e_pne1, e_pne2, e_zeq1, e_zeq2, e_zne1, e_zne2, e_feq1, e_fne1, e_feq2, e_fne2, e_seq, e_sne, e_ta1, e_ta2, Nat.zero_add, Nat.add_zero, Bool.not_true, Bool.not_false]
    rw [dnlt]
    try simp only [e_fd, e_nck, e_pkt, e_pkf, e_gdtt, e_gdtf, e_gdft, e_gdff, e_ift, e_iff, e_not, e_ln, e_lnT, e_cp, e_cvi, e_ex20, e_ex21, e_ex30, e_ex31, e_ex32, e_add, e_sub, e_mul, e_quo, e_rem, e_and, e_or, e_xor, e_shl, e_shr, e_eql, e_neq, e_lss, e_leq, e_gtr, e_geq, e_beq, e_bne, e_peq1, e_peq2, e_pne1, e_pne2, e_zeq1, e_zeq2, e_zne1, e_zne2, e_feq1, e_fne1, e_feq2, e_fne2, e_seq, e_sne, e_ta1, e_ta2, Nat.zero_add, Nat.add_zero, Bool.not_true, Bool.not_false]
    rw [Nat.sub_self, rLnsN, List.append_nil] at he
    rw [Nat.sub_self, List.replicate_zero, List.append_nil] at rw3
    rw [he] at hK
    exact hK w3 lms r3 rfl rw3 hls hpw hk3
end
end Go.Proofs.Qxb6500896aGreatDoor
