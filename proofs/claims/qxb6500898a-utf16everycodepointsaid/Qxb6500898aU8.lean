import Derived.Test.Qxb6500898aU7
namespace Go.Proofs.Qxb6500898a
open Go.Sh Go.RowKit
set_option linter.unusedVariables false
set_option linter.unusedSimpArgs false

def illV : Value := .iface 86 (.string ⟨#[111, 99, 116, 101, 116, 115, 58, 32, 105, 108, 108, 45, 102, 111, 114, 109, 101, 100, 32, 85, 84, 70, 45, 56]⟩)

theorem dec_by {xs : List Int} (hb : ∀ x ∈ xs, 0 ≤ x ∧ x ≤ 255) {v : Int} {n : Nat} (h : dec xs = some (v, n)) : 0 ≤ v ∧ v ≤ 1114111 := by
  have := (dec_sp hb h).1
  unfold isSc at this
  omega
theorem sp16_l {v : Int} : (sp16 v).length = if v < 65536 then 1 else 2 := by
  unfold sp16
  split <;> rfl

/-- UTF16Len -/
theorem len16_ok {w : World} {v : Value} {xs : List Int} {K : Value → World → Prop} (h : Bs w v xs) (hl : xs.length ≤ 1099511627776)
    (hK1 : ∀ w', Kp (fun _ => False) w w' → D xs = none → K (.tuple #[I 0, illV]) w')
    (hK2 : ∀ w' r, D xs = some r → Kp (fun _ => False) w w' → r.length ≤ xs.length → K (.tuple #[I (2 * (units r).length : Nat), .nilIface]) w') : cl Try.prog 64 #[v] K w := by
  apply c64
  unfold s64_p4 s64_p3
  refine ⟨fun m l w' => ∃ v zs acc, l = [v, I (2 * (units acc).length : Nat)] ∧ m = zs.length ∧ Bs w v zs ∧ Kp (fun _ => False) w w' ∧ D xs = (D zs).map (acc ++ ·) ∧ acc.length + zs.length ≤ xs.length,
    xs.length, ⟨v, xs, [], rfl, rfl, h, Kp.refl _ _, by simp, by simp⟩, ?_⟩
  rintro m l w1 ⟨v, zs, acc, rfl, rfl, hv, hk1, hD, hlen⟩
  rw [s64_p3_Fe]
  unfold s64_p2
  refine (hv.kp' hk1).ln ?_
  try simp only [e_fd, e_nck, e_pkt, e_pkf, e_gdtt, e_gdtf, e_gdft, e_gdff, e_ift, e_iff, e_not, e_ln, e_lnT, e_cp, e_cvi, e_ex20, e_ex21, e_ex30, e_ex31, e_ex32, e_add, e_sub, e_mul, e_quo, e_rem, e_and, e_or, e_xor, e_shl, e_shr, e_eql, e_neq, e_lss, e_leq, e_gtr, e_geq, e_beq, e_bne, e_peq1, e_peq2, e_pne1, e_pne2, e_zeq1, e_zeq2, e_zne1, e_zne2, e_feq1, e_fne1, e_feq2, e_fne2, e_seq, e_sne, e_ta1, e_ta2, Nat.zero_add, Nat.add_zero, Bool.not_true, Bool.not_false]
  have hul := units_len acc
  by_cases hz : 0 < zs.length
  · have hz' : (0 : Int) < (zs.length : Int) := by omega
    simp only [hz', decide_true, e_fd, e_nck, e_pkt, e_pkf, e_gdtt, e_gdtf, e_gdft, e_gdff, e_ift, e_iff, e_not, e_ln, e_lnT, e_cp, e_cvi, e_ex20, e_ex21, e_ex30, e_ex31, e_ex32, e_add, e_sub, e_mul, e_quo, e_rem, e_and, e_or, e_xor, e_shl, e_shr, e_eql, e_neq, e_lss, e_leq, e_gtr, e_geq, e_beq, e_bne, e_peq1, e_peq2, e_pne1, e_pne2, e_zeq1, e_zeq2, e_zne1, e_zne2, e_feq1, e_fne1, e_feq2, e_fne2, e_seq, e_sne, e_ta1, e_ta2, Nat.zero_add, Nat.add_zero, Bool.not_true, Bool.not_false]
    refine scalar_ok (hv.kp' hk1) fun w2 hk2 => ?_
    cases hd : dec zs with
    | none =>
      simp only [decV, e_fd, e_nck, e_pkt, e_pkf, e_gdtt, e_gdtf, e_gdft, e_gdff, e_ift, e_iff, e_not, e_ln, e_lnT, e_cp, e_cvi, e_ex20, e_ex21, e_ex30, e_ex31, e_ex32, e_add, e_sub, e_mul, e_quo, e_rem, e_and, e_or, e_xor, e_shl, e_shr, e_eql, e_neq, e_lss, e_leq, e_gtr, e_geq, e_beq, e_bne, e_peq1, e_peq2, e_pne1, e_pne2, e_zeq1, e_zeq2, e_zne1, e_zne2, e_feq1, e_fne1, e_feq2, e_fne2, e_seq, e_sne, e_ta1, e_ta2, Nat.zero_add, Nat.add_zero, Bool.not_true, Bool.not_false]
      have e : ((0 : Int) == 0) = true := rfl
      simp only [e, e_fd, e_nck, e_pkt, e_pkf, e_gdtt, e_gdtf, e_gdft, e_gdff, e_ift, e_iff, e_not, e_ln, e_lnT, e_cp, e_cvi, e_ex20, e_ex21, e_ex30, e_ex31, e_ex32, e_add, e_sub, e_mul, e_quo, e_rem, e_and, e_or, e_xor, e_shl, e_shr, e_eql, e_neq, e_lss, e_leq, e_gtr, e_geq, e_beq, e_bne, e_peq1, e_peq2, e_pne1, e_pne2, e_zeq1, e_zeq2, e_zne1, e_zne2, e_feq1, e_fne1, e_feq2, e_fne2, e_seq, e_sne, e_ta1, e_ta2, Nat.zero_add, Nat.add_zero, Bool.not_true, Bool.not_false]
      exact hK1 w2 (hk1.trans hk2) (by rw [hD, D_none hz hd]; rfl)
    | some p =>
      obtain ⟨u, k⟩ := p
      have hdl := dec_len hd
      have hub := dec_by hv.by_ hd
      simp only [decV, e_fd, e_nck, e_pkt, e_pkf, e_gdtt, e_gdtf, e_gdft, e_gdff, e_ift, e_iff, e_not, e_ln, e_lnT, e_cp, e_cvi, e_ex20, e_ex21, e_ex30, e_ex31, e_ex32, e_add, e_sub, e_mul, e_quo, e_rem, e_and, e_or, e_xor, e_shl, e_shr, e_eql, e_neq, e_lss, e_leq, e_gtr, e_geq, e_beq, e_bne, e_peq1, e_peq2, e_pne1, e_pne2, e_zeq1, e_zeq2, e_zne1, e_zne2, e_feq1, e_fne1, e_feq2, e_fne2, e_seq, e_sne, e_ta1, e_ta2, Nat.zero_add, Nat.add_zero, Bool.not_true, Bool.not_false]
      have e : ((k : Int) == 0) = false := by rw [beq_eq_false_iff_ne]; omega
      simp only [e, e_fd, e_nck, e_pkt, e_pkf, e_gdtt, e_gdtf, e_gdft, e_gdff, e_ift, e_iff, e_not, e_ln, e_lnT, e_cp, e_cvi, e_ex20, e_ex21, e_ex30, e_ex31, e_ex32, e_add, e_sub, e_mul, e_quo, e_rem, e_and, e_or, e_xor, e_shl, e_shr, e_eql, e_neq, e_lss, e_leq, e_gtr, e_geq, e_beq, e_bne, e_peq1, e_peq2, e_pne1, e_pne2, e_zeq1, e_zeq2, e_zne1, e_zne2, e_feq1, e_fne1, e_feq2, e_fne2, e_seq, e_sne, e_ta1, e_ta2, Nat.zero_add, Nat.add_zero, Bool.not_true, Bool.not_false]
      rw [wrap64_id (n := ((2 * (units acc).length : Nat) : Int) + 2) (by omega) (by omega)]
      have hD' : D xs = (D (zs.drop k)).map ((acc ++ [u]) ++ ·) := by
        rw [hD, D_some hd]
        cases D (zs.drop k) with
        | none => rfl
        | some r => simp
      have hl' : (units (acc ++ [u])).length = (units acc).length + (if u < 65536 then 1 else 2) := by rw [units_app, List.length_append, sp16_l]
      by_cases hu : 65536 ≤ u
      · have hu' : (65536 : Int) ≤ u := hu
        simp only [hu', decide_true, e_fd, e_nck, e_pkt, e_pkf, e_gdtt, e_gdtf, e_gdft, e_gdff, e_ift, e_iff, e_not, e_ln, e_lnT, e_cp, e_cvi, e_ex20, e_ex21, e_ex30, e_ex31, e_ex32, e_add, e_sub, e_mul, e_quo, e_rem, e_and, e_or, e_xor, e_shl, e_shr, e_eql, e_neq, e_lss, e_leq, e_gtr, e_geq, e_beq, e_bne, e_peq1, e_peq2, e_pne1, e_pne2, e_zeq1, e_zeq2, e_zne1, e_zne2, e_feq1, e_fne1, e_feq2, e_fne2, e_seq, e_sne, e_ta1, e_ta2, Nat.zero_add, Nat.add_zero, Bool.not_true, Bool.not_false]
        rw [wrap64_id (by omega) (by omega)]
        refine hv.dropW k rfl hdl.2.2 hz fun v' hv' => ?_
        refine ⟨(zs.drop k).length, by rw [List.length_drop]; omega, v', zs.drop k, acc ++ [u], ?_, rfl, hv', hk1.trans hk2, hD', ?_⟩
        · rw [hl', if_neg (by omega)]
          congr 3
        · rw [List.length_append, List.length_drop, List.length_singleton]; omega
      · have hu' : ¬ (65536 : Int) ≤ u := hu
        simp only [hu', decide_false, e_fd, e_nck, e_pkt, e_pkf, e_gdtt, e_gdtf, e_gdft, e_gdff, e_ift, e_iff, e_not, e_ln, e_lnT, e_cp, e_cvi, e_ex20, e_ex21, e_ex30, e_ex31, e_ex32, e_add, e_sub, e_mul, e_quo, e_rem, e_and, e_or, e_xor, e_shl, e_shr, e_eql, e_neq, e_lss, e_leq, e_gtr, e_geq, e_beq, e_bne, e_peq1, e_peq2, e_pne1, e_pne2, e_zeq1, e_zeq2, e_zne1, e_zne2, e_feq1, e_fne1, e_feq2, e_fne2, e_seq, e_sne, e_ta1, e_ta2, Nat.zero_add, Nat.add_zero, Bool.not_true, Bool.not_false]
        refine hv.dropW k rfl hdl.2.2 hz fun v' hv' => ?_
        refine ⟨(zs.drop k).length, by rw [List.length_drop]; omega, v', zs.drop k, acc ++ [u], ?_, rfl, hv', hk1.trans hk2, hD', ?_⟩
        · rw [hl', if_pos (by omega)]
          congr 3
        · rw [List.length_append, List.length_drop, List.length_singleton]; omega
  · have hz' : ¬ (0 : Int) < (zs.length : Int) := by omega
    simp only [hz', decide_false, e_fd, e_nck, e_pkt, e_pkf, e_gdtt, e_gdtf, e_gdft, e_gdff, e_ift, e_iff, e_not, e_ln, e_lnT, e_cp, e_cvi, e_ex20, e_ex21, e_ex30, e_ex31, e_ex32, e_add, e_sub, e_mul, e_quo, e_rem, e_and, e_or, e_xor, e_shl, e_shr, e_eql, e_neq, e_lss, e_leq, e_gtr, e_geq, e_beq, e_bne, e_peq1, e_peq2, e_pne1, e_pne2, e_zeq1, e_zeq2, e_zne1, e_zne2, e_feq1, e_fne1, e_feq2, e_fne2, e_seq, e_sne, e_ta1, e_ta2, Nat.zero_add, Nat.add_zero, Bool.not_true, Bool.not_false]
    unfold s64_p1
    have ez : zs = [] := List.eq_nil_of_length_eq_zero (by omega)
    subst ez
    refine hK2 w1 acc ?_ hk1 (by simp at hlen; omega)
    rw [hD, D_nil]; simp

theorem sh8 : (2 ^ (min ((8 : Int)).toNat IntKind.u16.bits) : Int) = 256 := by decide
theorem sh10 : (2 ^ (min ((10 : Int)).toNat IntKind.u32.bits) : Int) = 1024 := by decide

/-- AppendLE16 -/
theorem le16_ok {w : World} {ob : Option Nat} {t : Value} {us : List Int} {u : Int} {K : Value → World → Prop} (h : Sl u1 1 w 5 ob t (le2 us)) (hu : 0 ≤ u ∧ u ≤ 65535) (hl : us.length ≤ 2199023255552)
    (hK : ∀ w' t' ob', Sl u1 1 w' 5 ob' t' (le2 (us ++ [u])) → Kp (fun b => ob = some b) w w' → (ob' = ob ∨ ∃ b, ob' = some b ∧ w.heap.size ≤ b) → K t' w') : cl Try.prog 82 #[t, .int .u16 u] K w := by
  apply c82
  unfold s82_p1
  try simp only [e_fd, e_nck, e_pkt, e_pkf, e_gdtt, e_gdtf, e_gdft, e_gdff, e_ift, e_iff, e_not, e_ln, e_lnT, e_cp, e_cvi, e_ex20, e_ex21, e_ex30, e_ex31, e_ex32, e_add, e_sub, e_mul, e_quo, e_rem, e_and, e_or, e_xor, e_shl, e_shr, e_eql, e_neq, e_lss, e_leq, e_gtr, e_geq, e_beq, e_bne, e_peq1, e_peq2, e_pne1, e_pne2, e_zeq1, e_zeq2, e_zne1, e_zne2, e_feq1, e_fne1, e_feq2, e_fne2, e_seq, e_sne, e_ta1, e_ta2, Nat.zero_add, Nat.add_zero, Bool.not_true, Bool.not_false]
  refine ⟨by decide, ?_⟩
  rw [sh8, Int.fdiv_eq_ediv_of_nonneg _ (by decide), wrapu8, wrapu8]
  rw [show u / 256 % 256 = u / 256 by omega]
  refine app_two h (by rw [le2_len]; omega) ?_
  rw [← le2_app]
  exact hK

theorem and1023 {x : Int} (h0 : 0 ≤ x) (h1 : x ≤ 1048575) : IntKind.u32.wrap (BitVec.ofInt IntKind.u32.bits x &&& BitVec.ofInt IntKind.u32.bits 1023).toNat = x % 1024 := by
  obtain ⟨n, rfl⟩ : ∃ n : Nat, x = (n : Int) := ⟨x.toNat, by omega⟩
  rw [wrapu32, BitVec.toNat_and, of_u32 (by omega), show (1023 : Int) = ((1023 : Nat) : Int) from rfl, of_u32 (by decide), show (1023 : Nat) = 2 ^ 10 - 1 from rfl, Nat.and_two_pow_sub_one_eq_mod]
  omega

/-- the loop of AppendUTF16LE -/
theorem app16_loop {w w1 : World} {v t : Value} {xs r us0 : List Int} {ob : Option Nat} {K : Value → World → Prop} (h : Bs w v xs) (hl : xs.length ≤ 1000000000000) (hl0 : us0.length ≤ 16777216) (hD0 : D xs = some r)
    (hsl : Sl u1 1 w1 5 ob t (le2 us0)) (hob : Nw w ob) (hk : Kp (fun _ => False) w w1)
    (hK : ∀ w' t' ob', Sl u1 1 w' 5 ob' t' (le2 (us0 ++ units r)) → Nw w ob' → Kp (fun _ => False) w w' → K (.tuple #[t', .nilIface]) w') : s44_p3 K t v w1 := by
  unfold s44_p3
  refine ⟨fun m l w' => ∃ v zs acc t ob, l = [t, v] ∧ m = zs.length ∧ Bs w v zs ∧ Sl u1 1 w' 5 ob t (le2 (us0 ++ units acc)) ∧ Nw w ob ∧ Kp (fun _ => False) w w' ∧ D xs = (D zs).map (acc ++ ·) ∧ acc.length + zs.length ≤ xs.length,
    xs.length, ⟨v, xs, [], t, ob, rfl, rfl, h, by simpa [units] using hsl, hob, hk, by simp, by simp⟩, ?_⟩
  rintro m l w2 ⟨v, zs, acc, t, ob, rfl, rfl, hv, hsl, hob, hk2, hD, hlen⟩
  rw [s44_p3_Fe]
  unfold s44_p2
  refine (hv.kp' hk2).ln ?_
  try simp only [e_fd, e_nck, e_pkt, e_pkf, e_gdtt, e_gdtf, e_gdft, e_gdff, e_ift, e_iff, e_not, e_ln, e_lnT, e_cp, e_cvi, e_ex20, e_ex21, e_ex30, e_ex31, e_ex32, e_add, e_sub, e_mul, e_quo, e_rem, e_and, e_or, e_xor, e_shl, e_shr, e_eql, e_neq, e_lss, e_leq, e_gtr, e_geq, e_beq, e_bne, e_peq1, e_peq2, e_pne1, e_pne2, e_zeq1, e_zeq2, e_zne1, e_zne2, e_feq1, e_fne1, e_feq2, e_fne2, e_seq, e_sne, e_ta1, e_ta2, Nat.zero_add, Nat.add_zero, Bool.not_true, Bool.not_false]
  have hul := units_len acc
  have hul' : (us0 ++ units acc).length = us0.length + (units acc).length := List.length_append
  by_cases hz : 0 < zs.length
  · have hz' : (0 : Int) < (zs.length : Int) := by omega
    simp only [hz', decide_true, e_fd, e_nck, e_pkt, e_pkf, e_gdtt, e_gdtf, e_gdft, e_gdff, e_ift, e_iff, e_not, e_ln, e_lnT, e_cp, e_cvi, e_ex20, e_ex21, e_ex30, e_ex31, e_ex32, e_add, e_sub, e_mul, e_quo, e_rem, e_and, e_or, e_xor, e_shl, e_shr, e_eql, e_neq, e_lss, e_leq, e_gtr, e_geq, e_beq, e_bne, e_peq1, e_peq2, e_pne1, e_pne2, e_zeq1, e_zeq2, e_zne1, e_zne2, e_feq1, e_fne1, e_feq2, e_fne2, e_seq, e_sne, e_ta1, e_ta2, Nat.zero_add, Nat.add_zero, Bool.not_true, Bool.not_false]
    refine scalar_ok (hv.kp' hk2) fun w3 hk3 => ?_
    have hk3' := hk2.trans hk3
    cases hd : dec zs with
    | none =>
      rw [hD, D_none hz hd] at hD0
      cases hD0
    | some p =>
      obtain ⟨u, k⟩ := p
      have hdl := dec_len hd
      have hub := dec_by hv.by_ hd
      have hsc := (dec_sp hv.by_ hd).1
      simp only [decV, e_fd, e_nck, e_pkt, e_pkf, e_gdtt, e_gdtf, e_gdft, e_gdff, e_ift, e_iff, e_not, e_ln, e_lnT, e_cp, e_cvi, e_ex20, e_ex21, e_ex30, e_ex31, e_ex32, e_add, e_sub, e_mul, e_quo, e_rem, e_and, e_or, e_xor, e_shl, e_shr, e_eql, e_neq, e_lss, e_leq, e_gtr, e_geq, e_beq, e_bne, e_peq1, e_peq2, e_pne1, e_pne2, e_zeq1, e_zeq2, e_zne1, e_zne2, e_feq1, e_fne1, e_feq2, e_fne2, e_seq, e_sne, e_ta1, e_ta2, Nat.zero_add, Nat.add_zero, Bool.not_true, Bool.not_false]
      have hD' : D xs = (D (zs.drop k)).map ((acc ++ [u]) ++ ·) := by
        rw [hD, D_some hd]
        cases D (zs.drop k) with
        | none => rfl
        | some r => simp
      have fin : ∀ w' t' ob', Sl u1 1 w' 5 ob' t' (le2 (us0 ++ units (acc ++ [u]))) → Nw w ob' → Kp (fun _ => False) w w' → sls 1 v (some (I k)) none (fun t68 w' => (fun l w' => ∃ m', m' < zs.length ∧ ∃ v zs acc t ob, l = [t, v] ∧ m' = zs.length ∧ Bs w v zs ∧ Sl u1 1 w' 5 ob t (le2 (us0 ++ units acc)) ∧ Nw w ob ∧ Kp (fun _ => False) w w' ∧ D xs = (D zs).map (acc ++ ·) ∧ acc.length + zs.length ≤ xs.length) [t', t68] w') w' := by
        intro w' t' ob' hs ho hk'
        refine hv.dropW k rfl hdl.2.2 hz fun v' hv' => ?_
        refine ⟨(zs.drop k).length, by rw [List.length_drop]; omega, v', zs.drop k, acc ++ [u], t', ob', rfl, rfl, hv', hs, ho, hk', hD', ?_⟩
        rw [List.length_append, List.length_drop, List.length_singleton]; omega
      rw [units_app, ← List.append_assoc] at fin
      by_cases hu : (65536 : Int) ≤ u
      · simp only [hu, decide_true, e_fd, e_nck, e_pkt, e_pkf, e_gdtt, e_gdtf, e_gdft, e_gdff, e_ift, e_iff, e_not, e_ln, e_lnT, e_cp, e_cvi, e_ex20, e_ex21, e_ex30, e_ex31, e_ex32, e_add, e_sub, e_mul, e_quo, e_rem, e_and, e_or, e_xor, e_shl, e_shr, e_eql, e_neq, e_lss, e_leq, e_gtr, e_geq, e_beq, e_bne, e_peq1, e_peq2, e_pne1, e_pne2, e_zeq1, e_zeq2, e_zne1, e_zne2, e_feq1, e_fne1, e_feq2, e_fne2, e_seq, e_sne, e_ta1, e_ta2, Nat.zero_add, Nat.add_zero, Bool.not_true, Bool.not_false]
        refine ⟨by decide, ?_⟩
        have es : sp16 u = [55296 + (u - 65536) / 1024, 56320 + (u - 65536) % 1024] := by unfold sp16; rw [if_neg (by omega)]
        rw [wrapu32 (u - 65536), show (u - 65536) % 4294967296 = u - 65536 by omega, sh10, Int.fdiv_eq_ediv_of_nonneg _ (by decide), and1023 (by omega) (by omega)]
        rw [wrapu32 (55296 + _), wrapu32 (56320 + _), wrapu16, wrapu16]
        rw [show (55296 + (u - 65536) / 1024) % 4294967296 % 65536 = 55296 + (u - 65536) / 1024 by omega, show (56320 + (u - 65536) % 1024) % 4294967296 % 65536 = 56320 + (u - 65536) % 1024 by omega]
        refine le16_ok (hsl.kp' hk3) (by omega) (by omega) fun w4 t4 ob4 hsl4 hk4 ho4 => ?_
        have hob4 := hob.step hk3' ho4
        have hk4' := hob.kp hk3' hk4
        refine le16_ok hsl4 (by omega) (by rw [List.length_append, List.length_singleton]; omega) fun w5 t5 ob5 hsl5 hk5 ho5 => ?_
        refine fin w5 t5 ob5 ?_ (hob4.step hk4' ho5) (hob4.kp hk4' hk5)
        rw [es]
        rw [List.append_assoc] at hsl5
        exact hsl5
      · simp only [hu, decide_false, e_fd, e_nck, e_pkt, e_pkf, e_gdtt, e_gdtf, e_gdft, e_gdff, e_ift, e_iff, e_not, e_ln, e_lnT, e_cp, e_cvi, e_ex20, e_ex21, e_ex30, e_ex31, e_ex32, e_add, e_sub, e_mul, e_quo, e_rem, e_and, e_or, e_xor, e_shl, e_shr, e_eql, e_neq, e_lss, e_leq, e_gtr, e_geq, e_beq, e_bne, e_peq1, e_peq2, e_pne1, e_pne2, e_zeq1, e_zeq2, e_zne1, e_zne2, e_feq1, e_fne1, e_feq2, e_fne2, e_seq, e_sne, e_ta1, e_ta2, Nat.zero_add, Nat.add_zero, Bool.not_true, Bool.not_false]
        have es : sp16 u = [u] := by unfold sp16; rw [if_pos (by omega)]
        rw [wrapu16, show u % 65536 = u by omega]
        refine le16_ok (hsl.kp' hk3) (by omega) (by omega) fun w4 t4 ob4 hsl4 hk4 ho4 => ?_
        refine fin w4 t4 ob4 ?_ (hob.step hk3' ho4) (hob.kp hk3' hk4)
        rw [es]
        exact hsl4
  · have hz' : ¬ (0 : Int) < (zs.length : Int) := by omega
    simp only [hz', decide_false, e_fd, e_nck, e_pkt, e_pkf, e_gdtt, e_gdtf, e_gdft, e_gdff, e_ift, e_iff, e_not, e_ln, e_lnT, e_cp, e_cvi, e_ex20, e_ex21, e_ex30, e_ex31, e_ex32, e_add, e_sub, e_mul, e_quo, e_rem, e_and, e_or, e_xor, e_shl, e_shr, e_eql, e_neq, e_lss, e_leq, e_gtr, e_geq, e_beq, e_bne, e_peq1, e_peq2, e_pne1, e_pne2, e_zeq1, e_zeq2, e_zne1, e_zne2, e_feq1, e_fne1, e_feq2, e_fne2, e_seq, e_sne, e_ta1, e_ta2, Nat.zero_add, Nat.add_zero, Bool.not_true, Bool.not_false]
    unfold s44_p1
    have ez : zs = [] := List.eq_nil_of_length_eq_zero (by omega)
    subst ez
    have : r = acc := by
      rw [hD, D_nil] at hD0
      simpa [eq_comm] using hD0
    subst this
    exact hK w2 t ob hsl hob hk2

/-- UTF16LE of the program -/
theorem utf16_ok {w : World} {v : Value} {xs : List Int} {K : Value → World → Prop} (h : Bs w v xs) (hl : xs.length ≤ 1000000000000)
    (hK1 : ∀ w', Kp (fun _ => False) w w' → D xs = none → K (.tuple #[.slice none 0 0, illV]) w')
    (hK2 : ∀ w' t r ob, D xs = some r → Sl u1 1 w' 5 ob t (le2 (units r)) → Nw w ob → Kp (fun _ => False) w w' → K (.tuple #[t, .nilIface]) w') : cl Try.prog 28 #[v] K w := by
  apply c28
  unfold s28_p1
  apply c44
  unfold s44_p4
  refine len16_ok h (by omega) (fun w1 hk1 hd => ?_) (fun w1 r hd hk1 hrl => ?_)
  · unfold illV
    try simp only [e_fd, e_nck, e_pkt, e_pkf, e_gdtt, e_gdtf, e_gdft, e_gdff, e_ift, e_iff, e_not, e_ln, e_lnT, e_cp, e_cvi, e_ex20, e_ex21, e_ex30, e_ex31, e_ex32, e_add, e_sub, e_mul, e_quo, e_rem, e_and, e_or, e_xor, e_shl, e_shr, e_eql, e_neq, e_lss, e_leq, e_gtr, e_geq, e_beq, e_bne, e_peq1, e_peq2, e_pne1, e_pne2, e_zeq1, e_zeq2, e_zne1, e_zne2, e_feq1, e_fne1, e_feq2, e_fne2, e_seq, e_sne, e_ta1, e_ta2, Nat.zero_add, Nat.add_zero, Bool.not_true, Bool.not_false]
    exact hK1 w1 hk1 hd
  · simp only [e_fd, e_nck, e_pkt, e_pkf, e_gdtt, e_gdtf, e_gdft, e_gdff, e_ift, e_iff, e_not, e_ln, e_lnT, e_cp, e_cvi, e_ex20, e_ex21, e_ex30, e_ex31, e_ex32, e_add, e_sub, e_mul, e_quo, e_rem, e_and, e_or, e_xor, e_shl, e_shr, e_eql, e_neq, e_lss, e_leq, e_gtr, e_geq, e_beq, e_bne, e_peq1, e_peq2, e_pne1, e_pne2, e_zeq1, e_zeq2, e_zne1, e_zne2, e_feq1, e_fne1, e_feq2, e_fne2, e_seq, e_sne, e_ta1, e_ta2, Nat.zero_add, Nat.add_zero, Bool.not_true, Bool.not_false]
    rw [wrap64_id (by decide) (by decide)]
    have hul := units_len r
    by_cases h0 : 0 < (units r).length
    · have e : ((0 : Nat) : Int) - ((0 : Nat) : Int) < ((2 * (units r).length : Nat) : Int) := by omega
      simp only [e, decide_true, e_fd, e_nck, e_pkt, e_pkf, e_gdtt, e_gdtf, e_gdft, e_gdff, e_ift, e_iff, e_not, e_ln, e_lnT, e_cp, e_cvi, e_ex20, e_ex21, e_ex30, e_ex31, e_ex32, e_add, e_sub, e_mul, e_quo, e_rem, e_and, e_or, e_xor, e_shl, e_shr, e_eql, e_neq, e_lss, e_leq, e_gtr, e_geq, e_beq, e_bne, e_peq1, e_peq2, e_pne1, e_pne2, e_zeq1, e_zeq2, e_zne1, e_zne2, e_feq1, e_fne1, e_feq2, e_fne2, e_seq, e_sne, e_ta1, e_ta2, Nat.zero_add, Nat.add_zero, Bool.not_true, Bool.not_false]
      rw [wrap64_id (n := ((0 : Nat) : Int) + _) (by omega) (by omega)]
      refine ⟨⟨by omega, by omega, by omega, by omega⟩, ?_⟩
      have em : (((0 : Nat) : Int) + ((2 * (units r).length : Nat) : Int)).toNat = 2 * (units r).length := by omega
      rw [em]
      refine ⟨rfl, ?_⟩
      refine app16_loop (us0 := []) h hl (by simp) hd (ob := some w1.heap.size) ?_ ?_ (hk1.trans (kp_alloc _)) fun w' t' ob' hs ho hk' => ?_
      · exact ⟨2 * (units r).length, zrep [U8 0] (2 * (units r).length), rfl, by simp [le2], by simp [le2, zrep], by simpa [rows, le2] using Row.new w1 5 (zrep [U8 0] (2 * (units r).length))⟩
      · intro b hb; cases hb; exact hk1.size
      · simp only [e_fd, e_nck, e_pkt, e_pkf, e_gdtt, e_gdtf, e_gdft, e_gdff, e_ift, e_iff, e_not, e_ln, e_lnT, e_cp, e_cvi, e_ex20, e_ex21, e_ex30, e_ex31, e_ex32, e_add, e_sub, e_mul, e_quo, e_rem, e_and, e_or, e_xor, e_shl, e_shr, e_eql, e_neq, e_lss, e_leq, e_gtr, e_geq, e_beq, e_bne, e_peq1, e_peq2, e_pne1, e_pne2, e_zeq1, e_zeq2, e_zne1, e_zne2, e_feq1, e_fne1, e_feq2, e_fne2, e_seq, e_sne, e_ta1, e_ta2, Nat.zero_add, Nat.add_zero, Bool.not_true, Bool.not_false]
        exact hK2 w' t' r ob' hd hs ho hk'
    · have e : ¬ ((0 : Nat) : Int) - ((0 : Nat) : Int) < ((2 * (units r).length : Nat) : Int) := by omega
      simp only [e, decide_false, e_fd, e_nck, e_pkt, e_pkf, e_gdtt, e_gdtf, e_gdft, e_gdff, e_ift, e_iff, e_not, e_ln, e_lnT, e_cp, e_cvi, e_ex20, e_ex21, e_ex30, e_ex31, e_ex32, e_add, e_sub, e_mul, e_quo, e_rem, e_and, e_or, e_xor, e_shl, e_shr, e_eql, e_neq, e_lss, e_leq, e_gtr, e_geq, e_beq, e_bne, e_peq1, e_peq2, e_pne1, e_pne2, e_zeq1, e_zeq2, e_zne1, e_zne2, e_feq1, e_fne1, e_feq2, e_fne2, e_seq, e_sne, e_ta1, e_ta2, Nat.zero_add, Nat.add_zero, Bool.not_true, Bool.not_false]
      refine app16_loop (us0 := []) h hl (by simp) hd (ob := none) ⟨rfl, rfl⟩ (fun b hb => by cases hb) hk1 fun w' t' ob' hs ho hk' => ?_
      try simp only [e_fd, e_nck, e_pkt, e_pkf, e_gdtt, e_gdtf, e_gdft, e_gdff, e_ift, e_iff, e_not, e_ln, e_lnT, e_cp, e_cvi, e_ex20, e_ex21, e_ex30, e_ex31, e_ex32, e_add, e_sub, e_mul, e_quo, e_rem, e_and, e_or, e_xor, e_shl, e_shr, e_eql, e_neq, e_lss, e_leq, e_gtr, e_geq, e_beq, e_bne, e_peq1, e_peq2, e_pne1, e_pne2, e_zeq1, e_zeq2, e_zne1, e_zne2, e_feq1, e_fne1, e_feq2, e_fne2, e_seq, e_sne, e_ta1, e_ta2, Nat.zero_add, Nat.add_zero, Bool.not_true, Bool.not_false]
      exact hK2 w' t' r ob' hd hs ho hk'
end Go.Proofs.Qxb6500898a
