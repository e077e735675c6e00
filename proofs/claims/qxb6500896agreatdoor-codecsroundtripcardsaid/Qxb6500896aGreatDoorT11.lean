import Derived.Test.Qxb6500896aGreatDoorT10
namespace Go.Proofs.Qxb6500896aGreatDoor
open Go.Sh Go.RowKit
set_option linter.unusedVariables false
set_option linter.unusedSimpArgs false

section
variable {M : Nat → Prop} {w w' w0 : World} {K : Value → World → Prop} {v : Value} {F : Nat → Prop} {xs : List Int} {j : Nat} {lob : Option Nat} {J : Jr}
/-- a journal in words: a line for the snapshot, a line for each entry -/
theorem trace_ok (h : Jn M w j lob J) (hby : JBy J) (hbl : ∀ x ∈ J.log, x.length ≤ 10000000) (hK : ∀ w' v ob svs, Kp Emp w w' → Sl one 1 w' 9 ob v svs → svs.length = (if J.has = true then 1 else 0) + J.log.length → K v w') : cl Tryz.prog 26 #[P j 0] K w := by
  apply c26
  unfold s26_p5
  refine clone_ok h fun w1 M1 j1 lob1 hx1 hk1 ho1 h1 => ?_
  have hj1 := ho1 j1 (.inl rfl)
  refine restart_ok h1 fun w2 h2 hk2 hz2 => ?_
  refine arm_ok (by decide) h2 fun w3 h3 hk3 hz3 => ?_
  have e3 : armJ { J with off := false } 0 0 = { J with off := false, left := 0, keep := 0 } := by
    unfold armJ
    rw [if_neg (by omega)]
  rw [e3] at h3
  refine recover_ok h3 ⟨(fun q => by cases q), (fun _ q => absurd q (show ¬ (0 : Int) = 1 by decide)), fun _ _ w4 sv lv h4 hk4 hsv hlr => ?_⟩
  have k4 : Kp Emp w w4 := ((hk1.then hk2 fun b hb (q : b = j1) => by omega).then hk3 fun b hb (q : b = j1) => by omega).then hk4 fun b hb (q : b = j1) => by omega
  obtain ⟨evs, a1, a2, a3⟩ := hlr
  have a2 : evs.length = J.log.length := a2
  have hlen : J.log.length ≤ 1099511627776 := h.ok.len
  have p4 : ∀ (w5 : World) (t : Value) (ob : Option Nat) (svs : List Value), Sl one 1 w5 9 ob t svs → svs.length = (if J.has = true then 1 else 0) → (∀ b, ob = some b → w4.heap.size ≤ b) → Kp Emp w4 w5 → s26_p4 K lv t w5 := by
    intro w5 t ob svs sl hn hob hk5
    unfold s26_p4
    refine a1.ln ?_
    unfold s26_p3
    refine loop_n evs.length (fun i l w' => ∃ svs ob t, l = [t, lv, I (evs.length : Nat), I (i : Nat)] ∧ Sl one 1 w' 9 ob t svs ∧ svs.length = (if J.has = true then 1 else 0) + i ∧ (∀ b, ob = some b → w4.heap.size ≤ b) ∧ Kp Emp w4 w') ⟨svs, ob, t, rfl, sl, by omega, hob, hk5⟩ ?_ ?_
    · rintro i l w6 hi ⟨svs, ob, t, rfl, sl6, hn6, hob6, hk6⟩ B hB
      rw [s26_p3_Fe]
      unfold s26_p2
      simp only [dlt hi, e_fd, e_nck, e_pkt, e_pkf, e_gdtt, e_gdtf, e_gdft, e_gdff, e_ift, e_iff, e_not, e_ln, e_lnT, e_cp, e_cvi, e_ex20, e_ex21, e_ex30, e_ex31, e_ex32, e_add, e_sub, e_mul, e_quo, e_rem, e_and, e_or, e_xor, e_shl, e_shr, e_eql, e_neq, e_lss, e_leq, e_gtr, e_geq, e_beq, e_bne, e_peq1, e_peq2, e_pne1, e_pne2, e_zeq1, e_zeq2, e_zne1, e_zne2, e_feq1, e_fne1, e_feq2, e_fne2, e_seq, e_sne, e_ta1, e_ta2, Nat.zero_add, Nat.add_zero, Bool.not_true, Bool.not_false]
      refine (Ai.kp' a1 hk6).ix hi fun b o hb hcc => ?_
      refine hcc.ld0 rfl ?_
      have hi2 : i < J.log.length := by omega
      have sz6 := hk6.size
      refine traceEntry_ok (Ai.kp' (a3 i hi hi2) hk6) (fun b q => q.2) (hby.l _ (List.getElem_mem hi2)) (hbl _ (List.getElem_mem hi2)) fun w7 s hk7 hs => ?_
      have h01 : (if J.has = true then 1 else 0 : Nat) ≤ 1 := by split <;> omega
      refine (sl6.kp' hk7).app one_len rfl (.string s) rfl (by omega) (by omega) rfl fun w8 v8 ob8 sl8 hk8 ho8 => ?_
      have sz7 := hk7.size
      try simp only [e_fd, e_nck, e_pkt, e_pkf, e_gdtt, e_gdtf, e_gdft, e_gdff, e_ift, e_iff, e_not, e_ln, e_lnT, e_cp, e_cvi, e_ex20, e_ex21, e_ex30, e_ex31, e_ex32, e_add, e_sub, e_mul, e_quo, e_rem, e_and, e_or, e_xor, e_shl, e_shr, e_eql, e_neq, e_lss, e_leq, e_gtr, e_geq, e_beq, e_bne, e_peq1, e_peq2, e_pne1, e_pne2, e_zeq1, e_zeq2, e_zne1, e_zne2, e_feq1, e_fne1, e_feq2, e_fne2, e_seq, e_sne, e_ta1, e_ta2, Nat.zero_add, Nat.add_zero, Bool.not_true, Bool.not_false]
      rw [inc i (by omega)]
      refine hB _ _ ⟨svs ++ [.string s], ob8, v8, rfl, sl8, by simp; omega, fun b e => ?_, (hk6.trans hk7).then hk8 fun b hb q => by have := hob6 b q; omega⟩
      rcases ho8 with q | ⟨c, q, hc⟩
      · exact hob6 b (q ▸ e)
      · rw [q] at e; cases e; omega
    · rintro l w6 ⟨svs, ob, t, rfl, sl6, hn6, hob6, hk6⟩ B
      rw [s26_p3_Fe]
      unfold s26_p2
      simp only [dnlt, e_fd, e_nck, e_pkt, e_pkf, e_gdtt, e_gdtf, e_gdft, e_gdff, e_ift, e_iff, e_not, e_ln, e_lnT, e_cp, e_cvi, e_ex20, e_ex21, e_ex30, e_ex31, e_ex32, e_add, e_sub, e_mul, e_quo, e_rem, e_and, e_or, e_xor, e_shl, e_shr, e_eql, e_neq, e_lss, e_leq, e_gtr, e_geq, e_beq, e_bne, e_peq1, e_peq2, e_pne1, e_pne2, e_zeq1, e_zeq2, e_zne1, e_zne2, e_feq1, e_fne1, e_feq2, e_fne2, e_seq, e_sne, e_ta1, e_ta2, Nat.zero_add, Nat.add_zero, Bool.not_true, Bool.not_false]
      unfold s26_p1
      exact hK w6 t ob svs (k4.trans hk6) sl6 (by omega)
  have e0 : ((0 : Int) != 0) = false := rfl
  simp only [ex4_0, ex4_1, ex4_2, ex4_3, e0, e_fd, e_nck, e_pkt, e_pkf, e_gdtt, e_gdtf, e_gdft, e_gdff, e_ift, e_iff, e_not, e_ln, e_lnT, e_cp, e_cvi, e_ex20, e_ex21, e_ex30, e_ex31, e_ex32, e_add, e_sub, e_mul, e_quo, e_rem, e_and, e_or, e_xor, e_shl, e_shr, e_eql, e_neq, e_lss, e_leq, e_gtr, e_geq, e_beq, e_bne, e_peq1, e_peq2, e_pne1, e_pne2, e_zeq1, e_zeq2, e_zne1, e_zne2, e_feq1, e_fne1, e_feq2, e_fne2, e_seq, e_sne, e_ta1, e_ta2, Nat.zero_add, Nat.add_zero, Bool.not_true, Bool.not_false]
  show ifb (.bool J.has) _ _
  cases hh : J.has with
  | false =>
    rw [hh] at p4
    try simp only [e_fd, e_nck, e_pkt, e_pkf, e_gdtt, e_gdtf, e_gdft, e_gdff, e_ift, e_iff, e_not, e_ln, e_lnT, e_cp, e_cvi, e_ex20, e_ex21, e_ex30, e_ex31, e_ex32, e_add, e_sub, e_mul, e_quo, e_rem, e_and, e_or, e_xor, e_shl, e_shr, e_eql, e_neq, e_lss, e_leq, e_gtr, e_geq, e_beq, e_bne, e_peq1, e_peq2, e_pne1, e_pne2, e_zeq1, e_zeq2, e_zne1, e_zne2, e_feq1, e_fne1, e_feq2, e_fne2, e_seq, e_sne, e_ta1, e_ta2, Nat.zero_add, Nat.add_zero, Bool.not_true, Bool.not_false]
    exact p4 w4 _ none [] ⟨rfl, rfl⟩ rfl (fun b e => by cases e) (Kp.refl _ _)
  | true =>
    rw [hh] at p4
    try simp only [e_fd, e_nck, e_pkt, e_pkf, e_gdtt, e_gdtf, e_gdft, e_gdff, e_ift, e_iff, e_not, e_ln, e_lnT, e_cp, e_cvi, e_ex20, e_ex21, e_ex30, e_ex31, e_ex32, e_add, e_sub, e_mul, e_quo, e_rem, e_and, e_or, e_xor, e_shl, e_shr, e_eql, e_neq, e_lss, e_leq, e_gtr, e_geq, e_beq, e_bne, e_peq1, e_peq2, e_pne1, e_pne2, e_zeq1, e_zeq2, e_zne1, e_zne2, e_feq1, e_fne1, e_feq2, e_fne2, e_seq, e_sne, e_ta1, e_ta2, Nat.zero_add, Nat.add_zero, Bool.not_true, Bool.not_false]
    refine traceSnapshot_ok hsv (fun b q => q.2) hby.s hby.n fun w5 s hk5 hs => ?_
    have sz5 := hk5.size
    refine Sl.app (f := one) (k := 1) (xs := []) (ob := none) one_len rfl ⟨rfl, rfl⟩ (.string s) rfl (by decide) (by decide) rfl fun w6 v6 ob6 sl6 hk6 ho6 => ?_
    refine p4 w6 v6 ob6 _ sl6 rfl (fun b e => ?_) (hk5.then hk6 fun b hb q => by cases q)
    rcases ho6 with q | ⟨c, q, hc⟩
    · rw [q] at e; cases e
    · rw [q] at e; cases e; omega
end
end Go.Proofs.Qxb6500896aGreatDoor
