import Derived.Test.Qxb6500898aU5
namespace Go.Proofs.Qxb6500898a
open Go.Sh Go.RowKit
set_option linter.unusedVariables false
set_option linter.unusedSimpArgs false

def fnd (d : Option (Int × Nat)) (n : Nat) : Option (Int × Nat) := match d with
  | some (v, m) => if m < n then some (v, m) else none
  | none => none
def fI : Option (Int × Nat) → Nat
  | some (_, m) => m
  | none => 0
def fL : Option (Int × Nat) → List Int
  | some (v, _) => [v]
  | none => []
theorem fL_len (d : Option (Int × Nat)) : (fL d).length ≤ 1 := by
  cases d with
  | none => simp [fL]
  | some p => simp [fL]

theorem i1_len (x : Int) : (i1 x).length = 1 := rfl

theorem s104_orders {w : World} {K : Value → World → Prop} {B1 B2 : List Value → World → Prop} {v t4 t5 : Value} {cp : Int} {n : Nat} {zs : List Int}
    (hv : Bs w v zs) (hn : n ≤ zs.length) (hz : 0 < zs.length) (h0 : 0 ≤ cp) (h1 : cp ≤ 2097151)
    (hK : ∀ w', Kp (fun _ => False) w w' → s104_p4 K B1 B2 v t4 t5 (I n) (I cp) (.bool (decide (isSc cp ∧ sp8 cp = zs.take n))) w') :
    s104_p5 K B1 B2 v t4 t5 (I n) (I cp) w := by
  unfold s104_p5 s104_p5_d
  have hkd : Kp (fun _ => False) w (drw w) := kp_drw
  refine isSc_ok ?_
  by_cases hs : isSc cp
  · rw [decide_eq_true hs]
    have eK : (isSc cp ∧ sp8 cp = zs.take n) = (sp8 cp = zs.take n) := propext ⟨fun q => q.2, fun q => ⟨hs, q⟩⟩
    simp only [eK] at hK
    have hA : cl Try.prog 29 #[I cp] (fun t30 w => sls 1 v none (some (I n)) (fun t33 w => cl Try.prog 18 #[t30, t33] (fun t34 w => s104_p4 K B1 B2 v t4 t5 (I n) (I cp) t34 w) w) w) (drw w) := by
      refine spell8_ok h0 h1 fun w1 v1 hb1 hk1 => ?_
      refine hv.takeW n rfl hn hz fun v2 hb2 => ?_
      refine same_ok hb1 (hb2.kp' (hkd.trans hk1)) fun w2 hk2 => ?_
      exact hK w2 ((hkd.trans hk1).trans hk2)
    have hB : sls 1 v none (some (I n)) (fun t33 w => cl Try.prog 29 #[I cp] (fun t30 w => cl Try.prog 18 #[t30, t33] (fun t34 w => s104_p4 K B1 B2 v t4 t5 (I n) (I cp) t34 w) w) w) (drw w) := by
      refine hv.takeW n rfl hn hz fun v2 hb2 => ?_
      refine spell8_ok h0 h1 fun w1 v1 hb1 hk1 => ?_
      refine same_ok hb1 (hb2.kp' (hkd.trans hk1)) fun w2 hk2 => ?_
      exact hK w2 ((hkd.trans hk1).trans hk2)
    simp only [e_fd, e_nck, e_pkt, e_pkf, e_gdtt, e_gdtf, e_gdft, e_gdff, e_ift, e_iff, e_not, e_ln, e_lnT, e_cp, e_cvi, e_ex20, e_ex21, e_ex30, e_ex31, e_ex32, e_add, e_sub, e_mul, e_quo, e_rem, e_and, e_or, e_xor, e_shl, e_shr, e_eql, e_neq, e_lss, e_leq, e_gtr, e_geq, e_beq, e_bne, e_peq1, e_peq2, e_pne1, e_pne2, e_zeq1, e_zeq2, e_zne1, e_zne2, e_feq1, e_fne1, e_feq2, e_fne2, e_seq, e_sne, e_ta1, e_ta2, Nat.zero_add, Nat.add_zero, Bool.not_true, Bool.not_false, and_self]
    repeat' first | exact hA | exact hB | refine And.intro ?_ ?_
  · rw [decide_eq_false hs]
    have eK : (isSc cp ∧ sp8 cp = zs.take n) = False := propext ⟨fun q => hs q.1, fun q => q.elim⟩
    simp only [eK, decide_false] at hK
    have hC := hK _ hkd
    simp only [e_fd, e_nck, e_pkt, e_pkf, e_gdtt, e_gdtf, e_gdft, e_gdff, e_ift, e_iff, e_not, e_ln, e_lnT, e_cp, e_cvi, e_ex20, e_ex21, e_ex30, e_ex31, e_ex32, e_add, e_sub, e_mul, e_quo, e_rem, e_and, e_or, e_xor, e_shl, e_shr, e_eql, e_neq, e_lss, e_leq, e_gtr, e_geq, e_beq, e_bne, e_peq1, e_peq2, e_pne1, e_pne2, e_zeq1, e_zeq2, e_zne1, e_zne2, e_feq1, e_fne1, e_feq2, e_fne2, e_seq, e_sne, e_ta1, e_ta2, Nat.zero_add, Nat.add_zero, Bool.not_true, Bool.not_false, and_self]
    exact hC

theorem scalars_ok {w : World} {v : Value} {xs : List Int} {K : Value → World → Prop} (h : Bs w v xs) (hl : xs.length ≤ 1099511627776)
    (hK1 : ∀ w', Kp (fun _ => False) w w' → D xs = none → K (.tuple #[.slice none 0 0, .bool false]) w')
    (hK2 : ∀ w' t r ob, D xs = some r → Sl i1 1 w' 3 ob t r → (∀ b, ob = some b → w.heap.size ≤ b) → Kp (fun _ => False) w w' → r.length ≤ xs.length → K (.tuple #[t, .bool true]) w') : cl Try.prog 104 #[v] K w := by
  apply c104
  unfold s104_p12
  refine Sl.empty (f := i1) (k := 1) fun w0 hsl0 hk0 hz0 => ?_
  unfold s104_p11
  refine ⟨fun m l w' => ∃ v zs acc ob t4, l = [v, t4] ∧ m = zs.length ∧ Bs w v zs ∧ Sl i1 1 w' 3 ob t4 acc ∧ (∀ b, ob = some b → w.heap.size ≤ b) ∧ Kp (fun _ => False) w w' ∧ D xs = (D zs).map (acc ++ ·) ∧ acc.length + zs.length ≤ xs.length,
    xs.length, ⟨v, xs, [], _, _, rfl, rfl, h, hsl0, fun b hb => by cases hb; exact Nat.le_refl _, hk0, by simp, by simp⟩, ?_⟩
  rintro m l w1 ⟨v, zs, acc, ob, t4, rfl, rfl, hv, hsl, hob, hk1, hD, hlen⟩
  rw [s104_p11_Fe]
  unfold s104_p10
  refine (hv.kp' hk1).ln ?_
  try simp only [e_fd, e_nck, e_pkt, e_pkf, e_gdtt, e_gdtf, e_gdft, e_gdff, e_ift, e_iff, e_not, e_ln, e_lnT, e_cp, e_cvi, e_ex20, e_ex21, e_ex30, e_ex31, e_ex32, e_add, e_sub, e_mul, e_quo, e_rem, e_and, e_or, e_xor, e_shl, e_shr, e_eql, e_neq, e_lss, e_leq, e_gtr, e_geq, e_beq, e_bne, e_peq1, e_peq2, e_pne1, e_pne2, e_zeq1, e_zeq2, e_zne1, e_zne2, e_feq1, e_fne1, e_feq2, e_fne2, e_seq, e_sne, e_ta1, e_ta2, Nat.zero_add, Nat.add_zero, Bool.not_true, Bool.not_false]
  by_cases hz : 0 < zs.length
  · have hz' : (0 : Int) < (zs.length : Int) := by omega
    simp only [hz', decide_true, e_fd, e_nck, e_pkt, e_pkf, e_gdtt, e_gdtf, e_gdft, e_gdff, e_ift, e_iff, e_not, e_ln, e_lnT, e_cp, e_cvi, e_ex20, e_ex21, e_ex30, e_ex31, e_ex32, e_add, e_sub, e_mul, e_quo, e_rem, e_and, e_or, e_xor, e_shl, e_shr, e_eql, e_neq, e_lss, e_leq, e_gtr, e_geq, e_beq, e_bne, e_peq1, e_peq2, e_pne1, e_pne2, e_zeq1, e_zeq2, e_zne1, e_zne2, e_feq1, e_fne1, e_feq2, e_fne2, e_seq, e_sne, e_ta1, e_ta2, Nat.zero_add, Nat.add_zero, Bool.not_true, Bool.not_false]
    unfold s104_p9 s104_p8
    refine ⟨fun m l w' => ∃ (n : Nat) (ob : Option Nat) (t4 : Value), 1 ≤ n ∧ n ≤ 5 ∧ m = 5 - n ∧ l = [v, t4, I (fI (fnd (dec zs) n)), I n] ∧ Sl i1 1 w' 3 ob t4 (acc ++ fL (fnd (dec zs) n)) ∧ (∀ b, ob = some b → w.heap.size ≤ b) ∧ Kp (fun _ => False) w w',
      4, ⟨1, ob, t4, by omega, by omega, by omega, ?_, ?_, hob, hk1⟩, ?_⟩
    · have : fnd (dec zs) 1 = none := by
        unfold fnd
        cases hd : dec zs with
        | none => rfl
        | some p => have := (dec_len hd).1; simp only; rw [if_neg (by omega)]
      rw [this]; rfl
    · have : fnd (dec zs) 1 = none := by
        unfold fnd
        cases hd : dec zs with
        | none => rfl
        | some p => have := (dec_len hd).1; simp only; rw [if_neg (by omega)]
      rw [this]; simpa [fL] using hsl
    rintro m l w2 ⟨n, ob, t4, hn1, hn5, rfl, rfl, hsl, hob, hk2⟩
    rw [s104_p8_Fe]
    unfold s104_p7
    try simp only [e_fd, e_nck, e_pkt, e_pkf, e_gdtt, e_gdtf, e_gdft, e_gdff, e_ift, e_iff, e_not, e_ln, e_lnT, e_cp, e_cvi, e_ex20, e_ex21, e_ex30, e_ex31, e_ex32, e_add, e_sub, e_mul, e_quo, e_rem, e_and, e_or, e_xor, e_shl, e_shr, e_eql, e_neq, e_lss, e_leq, e_gtr, e_geq, e_beq, e_bne, e_peq1, e_peq2, e_pne1, e_pne2, e_zeq1, e_zeq2, e_zne1, e_zne2, e_feq1, e_fne1, e_feq2, e_fne2, e_seq, e_sne, e_ta1, e_ta2, Nat.zero_add, Nat.add_zero, Bool.not_true, Bool.not_false]
    have done : n = 5 ∨ zs.length < n → s104_p2 K (fun l w' => ∃ m', m' < zs.length ∧ (∃ v zs acc ob t4, l = [v, t4] ∧ m' = zs.length ∧ Bs w v zs ∧ Sl i1 1 w' 3 ob t4 acc ∧ (∀ b, ob = some b → w.heap.size ≤ b) ∧ Kp (fun _ => False) w w' ∧ D xs = (D zs).map (acc ++ ·) ∧ acc.length + zs.length ≤ xs.length)) v t4 (I (fI (fnd (dec zs) n))) w2 := by
      intro hdone
      have hall : fnd (dec zs) n = dec zs := by
        unfold fnd
        cases hd : dec zs with
        | none => rfl
        | some p => have := dec_len hd; simp only; rw [if_pos (by omega)]
      rw [hall] at hsl ⊢
      unfold s104_p2
      try simp only [e_fd, e_nck, e_pkt, e_pkf, e_gdtt, e_gdtf, e_gdft, e_gdff, e_ift, e_iff, e_not, e_ln, e_lnT, e_cp, e_cvi, e_ex20, e_ex21, e_ex30, e_ex31, e_ex32, e_add, e_sub, e_mul, e_quo, e_rem, e_and, e_or, e_xor, e_shl, e_shr, e_eql, e_neq, e_lss, e_leq, e_gtr, e_geq, e_beq, e_bne, e_peq1, e_peq2, e_pne1, e_pne2, e_zeq1, e_zeq2, e_zne1, e_zne2, e_feq1, e_fne1, e_feq2, e_fne2, e_seq, e_sne, e_ta1, e_ta2, Nat.zero_add, Nat.add_zero, Bool.not_true, Bool.not_false]
      cases hd : dec zs with
      | none =>
        have e : (((fI none : Nat) : Int) == 0) = true := rfl
        simp only [e, e_fd, e_nck, e_pkt, e_pkf, e_gdtt, e_gdtf, e_gdft, e_gdff, e_ift, e_iff, e_not, e_ln, e_lnT, e_cp, e_cvi, e_ex20, e_ex21, e_ex30, e_ex31, e_ex32, e_add, e_sub, e_mul, e_quo, e_rem, e_and, e_or, e_xor, e_shl, e_shr, e_eql, e_neq, e_lss, e_leq, e_gtr, e_geq, e_beq, e_bne, e_peq1, e_peq2, e_pne1, e_pne2, e_zeq1, e_zeq2, e_zne1, e_zne2, e_feq1, e_fne1, e_feq2, e_fne2, e_seq, e_sne, e_ta1, e_ta2, Nat.zero_add, Nat.add_zero, Bool.not_true, Bool.not_false]
        refine hK1 w2 hk2 ?_
        rw [hD, D_none hz hd]; rfl
      | some p =>
        obtain ⟨u, k⟩ := p
        have hdl := dec_len hd
        have e : (((fI (some (u, k)) : Nat) : Int) == 0) = false := by
          rw [beq_eq_false_iff_ne]
          show (k : Int) ≠ 0
          omega
        simp only [e, e_fd, e_nck, e_pkt, e_pkf, e_gdtt, e_gdtf, e_gdft, e_gdff, e_ift, e_iff, e_not, e_ln, e_lnT, e_cp, e_cvi, e_ex20, e_ex21, e_ex30, e_ex31, e_ex32, e_add, e_sub, e_mul, e_quo, e_rem, e_and, e_or, e_xor, e_shl, e_shr, e_eql, e_neq, e_lss, e_leq, e_gtr, e_geq, e_beq, e_bne, e_peq1, e_peq2, e_pne1, e_pne2, e_zeq1, e_zeq2, e_zne1, e_zne2, e_feq1, e_fne1, e_feq2, e_fne2, e_seq, e_sne, e_ta1, e_ta2, Nat.zero_add, Nat.add_zero, Bool.not_true, Bool.not_false]
        refine hv.dropW k rfl hdl.2.2 hz fun v' hv' => ?_
        refine ⟨(zs.drop k).length, by rw [List.length_drop]; omega, v', zs.drop k, acc ++ [u], ob, t4, rfl, rfl, hv', ?_, hob, hk2, ?_, ?_⟩
        · rw [hd] at hsl; exact hsl
        · rw [hD, D_some hd]
          cases D (zs.drop k) with
          | none => rfl
          | some r => simp
        · rw [List.length_append, List.length_drop, List.length_singleton]; omega
    by_cases hn4 : n ≤ 4
    · have hn4' : (n : Int) ≤ 4 := by omega
      simp only [hn4', decide_true, e_fd, e_nck, e_pkt, e_pkf, e_gdtt, e_gdtf, e_gdft, e_gdff, e_ift, e_iff, e_not, e_ln, e_lnT, e_cp, e_cvi, e_ex20, e_ex21, e_ex30, e_ex31, e_ex32, e_add, e_sub, e_mul, e_quo, e_rem, e_and, e_or, e_xor, e_shl, e_shr, e_eql, e_neq, e_lss, e_leq, e_gtr, e_geq, e_beq, e_bne, e_peq1, e_peq2, e_pne1, e_pne2, e_zeq1, e_zeq2, e_zne1, e_zne2, e_feq1, e_fne1, e_feq2, e_fne2, e_seq, e_sne, e_ta1, e_ta2, Nat.zero_add, Nat.add_zero, Bool.not_true, Bool.not_false]
      refine (hv.kp' hk2).ln ?_
      try simp only [e_fd, e_nck, e_pkt, e_pkf, e_gdtt, e_gdtf, e_gdft, e_gdff, e_ift, e_iff, e_not, e_ln, e_lnT, e_cp, e_cvi, e_ex20, e_ex21, e_ex30, e_ex31, e_ex32, e_add, e_sub, e_mul, e_quo, e_rem, e_and, e_or, e_xor, e_shl, e_shr, e_eql, e_neq, e_lss, e_leq, e_gtr, e_geq, e_beq, e_bne, e_peq1, e_peq2, e_pne1, e_pne2, e_zeq1, e_zeq2, e_zne1, e_zne2, e_feq1, e_fne1, e_feq2, e_fne2, e_seq, e_sne, e_ta1, e_ta2, Nat.zero_add, Nat.add_zero, Bool.not_true, Bool.not_false]
      by_cases hnz : n ≤ zs.length
      · have hnz' : (n : Int) ≤ (zs.length : Int) := by omega
        simp only [hnz', decide_true, e_fd, e_nck, e_pkt, e_pkf, e_gdtt, e_gdtf, e_gdft, e_gdff, e_ift, e_iff, e_not, e_ln, e_lnT, e_cp, e_cvi, e_ex20, e_ex21, e_ex30, e_ex31, e_ex32, e_add, e_sub, e_mul, e_quo, e_rem, e_and, e_or, e_xor, e_shl, e_shr, e_eql, e_neq, e_lss, e_leq, e_gtr, e_geq, e_beq, e_bne, e_peq1, e_peq2, e_pne1, e_pne2, e_zeq1, e_zeq2, e_zne1, e_zne2, e_feq1, e_fne1, e_feq2, e_fne2, e_seq, e_sne, e_ta1, e_ta2, Nat.zero_add, Nat.add_zero, Bool.not_true, Bool.not_false]
        unfold s104_p6
        refine hv.takeW n rfl hnz hz fun v' hv' => ?_
        have htl : (zs.take n).length = n := by rw [List.length_take]; omega
        refine payload_ok (hv'.kp' hk2) (by omega) (by omega) fun w3 hk3 => ?_
        have hk3' := hk2.trans hk3
        have hpb := pay_by (ys := zs.take n) (fun x hx => hv.by_ x (List.mem_of_mem_take hx)) (by omega) (by omega)
        refine s104_orders (hv.kp' hk3') hnz hz hpb.1 hpb.2 fun w4 hk4 => ?_
        have hk4' := hk3'.trans hk4
        have hsl4 := hsl.kp' (hk3.trans hk4)
        have hiff := okN_iff hv.by_ hn1 hn4 hnz
        unfold s104_p4
        by_cases hok : okN zs n
        · have hd := hiff.1 hok
          rw [decide_eq_true hok.2]
          try simp only [e_fd, e_nck, e_pkt, e_pkf, e_gdtt, e_gdtf, e_gdft, e_gdff, e_ift, e_iff, e_not, e_ln, e_lnT, e_cp, e_cvi, e_ex20, e_ex21, e_ex30, e_ex31, e_ex32, e_add, e_sub, e_mul, e_quo, e_rem, e_and, e_or, e_xor, e_shl, e_shr, e_eql, e_neq, e_lss, e_leq, e_gtr, e_geq, e_beq, e_bne, e_peq1, e_peq2, e_pne1, e_pne2, e_zeq1, e_zeq2, e_zne1, e_zne2, e_feq1, e_fne1, e_feq2, e_fne2, e_seq, e_sne, e_ta1, e_ta2, Nat.zero_add, Nat.add_zero, Bool.not_true, Bool.not_false]
          have e1 : fnd (dec zs) n = none := by rw [hd]; simp [fnd]
          have e2 : fnd (dec zs) (n + 1) = some (pay (zs.take n), n) := by rw [hd]; simp [fnd]
          rw [e1] at hsl4
          simp only [fL, List.append_nil] at hsl4
          refine hsl4.app i1_len rfl (pay (zs.take n)) rfl (by omega) (by omega) rfl fun w5 t' ob' hsl5 hk5 hob' => ?_
          unfold s104_p3
          try simp only [e_fd, e_nck, e_pkt, e_pkf, e_gdtt, e_gdtf, e_gdft, e_gdff, e_ift, e_iff, e_not, e_ln, e_lnT, e_cp, e_cvi, e_ex20, e_ex21, e_ex30, e_ex31, e_ex32, e_add, e_sub, e_mul, e_quo, e_rem, e_and, e_or, e_xor, e_shl, e_shr, e_eql, e_neq, e_lss, e_leq, e_gtr, e_geq, e_beq, e_bne, e_peq1, e_peq2, e_pne1, e_pne2, e_zeq1, e_zeq2, e_zne1, e_zne2, e_feq1, e_fne1, e_feq2, e_fne2, e_seq, e_sne, e_ta1, e_ta2, Nat.zero_add, Nat.add_zero, Bool.not_true, Bool.not_false]
          rw [wrap64_id (by omega) (by omega)]
          refine ⟨5 - (n + 1), by omega, n + 1, ob', t', by omega, by omega, rfl, ?_, ?_, ?_, ?_⟩
          · rw [e2]; simp [fI]
          · rw [e2]; exact hsl5
          · intro b hb
            rcases hob' with q | ⟨b', q, q2⟩
            · exact hob b (by rw [← q]; exact hb)
            · rw [q] at hb; cases hb; exact Nat.le_trans hk4'.size q2
          · exact hk4'.then hk5 (fun k hk q => absurd (hob k q) (by omega))
        · rw [decide_eq_false (fun q => hok ⟨hnz, q⟩)]
          try simp only [e_fd, e_nck, e_pkt, e_pkf, e_gdtt, e_gdtf, e_gdft, e_gdff, e_ift, e_iff, e_not, e_ln, e_lnT, e_cp, e_cvi, e_ex20, e_ex21, e_ex30, e_ex31, e_ex32, e_add, e_sub, e_mul, e_quo, e_rem, e_and, e_or, e_xor, e_shl, e_shr, e_eql, e_neq, e_lss, e_leq, e_gtr, e_geq, e_beq, e_bne, e_peq1, e_peq2, e_pne1, e_pne2, e_zeq1, e_zeq2, e_zne1, e_zne2, e_feq1, e_fne1, e_feq2, e_fne2, e_seq, e_sne, e_ta1, e_ta2, Nat.zero_add, Nat.add_zero, Bool.not_true, Bool.not_false]
          unfold s104_p3
          try simp only [e_fd, e_nck, e_pkt, e_pkf, e_gdtt, e_gdtf, e_gdft, e_gdff, e_ift, e_iff, e_not, e_ln, e_lnT, e_cp, e_cvi, e_ex20, e_ex21, e_ex30, e_ex31, e_ex32, e_add, e_sub, e_mul, e_quo, e_rem, e_and, e_or, e_xor, e_shl, e_shr, e_eql, e_neq, e_lss, e_leq, e_gtr, e_geq, e_beq, e_bne, e_peq1, e_peq2, e_pne1, e_pne2, e_zeq1, e_zeq2, e_zne1, e_zne2, e_feq1, e_fne1, e_feq2, e_fne2, e_seq, e_sne, e_ta1, e_ta2, Nat.zero_add, Nat.add_zero, Bool.not_true, Bool.not_false]
          rw [wrap64_id (by omega) (by omega)]
          have e2 : fnd (dec zs) (n + 1) = fnd (dec zs) n := by
            unfold fnd
            cases hd : dec zs with
            | none => rfl
            | some p =>
              obtain ⟨u, k⟩ := p
              simp only
              have hne : k ≠ n := by
                intro e
                subst e
                have := (dec_sp hv.by_ hd).2.2
                exact hok (hiff.2 (by rw [hd, this]))
              by_cases q : k < n
              · rw [if_pos q, if_pos (by omega)]
              · rw [if_neg q, if_neg (by omega)]
          refine ⟨5 - (n + 1), by omega, n + 1, ob, t4, by omega, by omega, rfl, ?_, ?_, hob, hk4'⟩
          · rw [e2]; simp
          · rw [e2]; exact hsl4
      · have hnz' : ¬ (n : Int) ≤ (zs.length : Int) := by omega
        simp only [hnz', decide_false, e_fd, e_nck, e_pkt, e_pkf, e_gdtt, e_gdtf, e_gdft, e_gdff, e_ift, e_iff, e_not, e_ln, e_lnT, e_cp, e_cvi, e_ex20, e_ex21, e_ex30, e_ex31, e_ex32, e_add, e_sub, e_mul, e_quo, e_rem, e_and, e_or, e_xor, e_shl, e_shr, e_eql, e_neq, e_lss, e_leq, e_gtr, e_geq, e_beq, e_bne, e_peq1, e_peq2, e_pne1, e_pne2, e_zeq1, e_zeq2, e_zne1, e_zne2, e_feq1, e_fne1, e_feq2, e_fne2, e_seq, e_sne, e_ta1, e_ta2, Nat.zero_add, Nat.add_zero, Bool.not_true, Bool.not_false]
        exact done (by omega)
    · have hn4' : ¬ (n : Int) ≤ 4 := by omega
      simp only [hn4', decide_false, e_fd, e_nck, e_pkt, e_pkf, e_gdtt, e_gdtf, e_gdft, e_gdff, e_ift, e_iff, e_not, e_ln, e_lnT, e_cp, e_cvi, e_ex20, e_ex21, e_ex30, e_ex31, e_ex32, e_add, e_sub, e_mul, e_quo, e_rem, e_and, e_or, e_xor, e_shl, e_shr, e_eql, e_neq, e_lss, e_leq, e_gtr, e_geq, e_beq, e_bne, e_peq1, e_peq2, e_pne1, e_pne2, e_zeq1, e_zeq2, e_zne1, e_zne2, e_feq1, e_fne1, e_feq2, e_fne2, e_seq, e_sne, e_ta1, e_ta2, Nat.zero_add, Nat.add_zero, Bool.not_true, Bool.not_false]
      exact done (by omega)
  · have hz' : ¬ (0 : Int) < (zs.length : Int) := by omega
    simp only [hz', decide_false, e_fd, e_nck, e_pkt, e_pkf, e_gdtt, e_gdtf, e_gdft, e_gdff, e_ift, e_iff, e_not, e_ln, e_lnT, e_cp, e_cvi, e_ex20, e_ex21, e_ex30, e_ex31, e_ex32, e_add, e_sub, e_mul, e_quo, e_rem, e_and, e_or, e_xor, e_shl, e_shr, e_eql, e_neq, e_lss, e_leq, e_gtr, e_geq, e_beq, e_bne, e_peq1, e_peq2, e_pne1, e_pne2, e_zeq1, e_zeq2, e_zne1, e_zne2, e_feq1, e_fne1, e_feq2, e_fne2, e_seq, e_sne, e_ta1, e_ta2, Nat.zero_add, Nat.add_zero, Bool.not_true, Bool.not_false]
    unfold s104_p1
    have ez : zs = [] := List.eq_nil_of_length_eq_zero (by omega)
    subst ez
    refine hK2 w1 t4 acc ob ?_ hsl hob hk1 (by simp at hlen; omega)
    rw [hD, D_nil]; simp

theorem D_by {xs : List Int} (hb : ∀ x ∈ xs, 0 ≤ x ∧ x ≤ 255) {r : List Int} (h : D xs = some r) : ∀ v ∈ r, isSc v := by
  have key : ∀ (f : Nat) (xs r : List Int), (∀ x ∈ xs, 0 ≤ x ∧ x ≤ 255) → decA f xs = some r → ∀ v ∈ r, isSc v := by
    intro f
    induction f with
    | zero =>
      intro xs r hb h v hv
      unfold decA at h
      split at h
      · cases h; simp at hv
      · cases h
    | succ f ih =>
      intro xs r hb h v hv
      unfold decA at h
      split at h
      · cases h; simp at hv
      · split at h
        · cases h
        · rename_i u n hd
          cases hq : decA f (xs.drop n) with
          | none => rw [hq] at h; cases h
          | some r' =>
            rw [hq] at h
            have h : u :: r' = r := Option.some.inj h
            subst h
            rcases List.mem_cons.1 hv with q | q
            · subst q; exact (dec_sp hb hd).1
            · exact ih (xs.drop n) r' (fun x hx => hb x (List.mem_of_mem_drop hx)) hq v q
  exact key _ xs r hb h
end Go.Proofs.Qxb6500898a
