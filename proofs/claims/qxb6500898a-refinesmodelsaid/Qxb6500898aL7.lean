import Derived.Test.Qxb6500898aL5
namespace Go.Proofs.Qxb6500898a
open Go.Sh Go.RowKit
set_option linter.unusedVariables false
set_option linter.unusedSimpArgs false

/-- the number that fits into the width -/
def cutV (width z : Int) : Int := if width = 2 then z % 65536 else if width = 4 then z % 4294967296 else z
theorem enc_rev {width z : Int} (hw : Wid width) : enc width false z = (enc width true z).reverse := by
  rcases hw with rfl | rfl | rfl <;> rfl
theorem g_cons0 {a : Int} {l : List Int} : g (a :: l) 0 = a := rfl
theorem g_consS {a : Int} {l : List Int} {n : Nat} : g (a :: l) (n + 1) = g l n := rfl
theorem dec_enc {width z : Int} {little : Bool} {ys : List Int} (hw : Wid width) (h0 : 0 ≤ z) (h1 : z ≤ 18446744073709551615) : dec2 width little (enc width little z ++ ys) = cutV width z := by
  rcases hw with rfl | rfl | rfl
  · cases little
    · show (z / 256 % 256) * 256 + z % 256 = z % 65536
      omega
    · show (z / 256 % 256) * 256 + z % 256 = z % 65536
      omega
  · cases little
    · show (z / 16777216 % 256) * 16777216 + (z / 65536 % 256) * 65536 + (z / 256 % 256) * 256 + z % 256 = z % 4294967296
      omega
    · show (z / 16777216 % 256) * 16777216 + (z / 65536 % 256) * 65536 + (z / 256 % 256) * 256 + z % 256 = z % 4294967296
      omega
  · cases little
    · show (z / 4294967296 / 16777216 % 256) * 72057594037927936 + (z / 4294967296 / 65536 % 256) * 281474976710656 + (z / 4294967296 / 256 % 256) * 1099511627776 + (z / 4294967296 % 256) * 4294967296 + (z / 16777216 % 256) * 16777216 + (z / 65536 % 256) * 65536 + (z / 256 % 256) * 256 + z % 256 = z
      omega
    · show (z / 4294967296 / 16777216 % 256) * 72057594037927936 + (z / 4294967296 / 65536 % 256) * 281474976710656 + (z / 4294967296 / 256 % 256) * 1099511627776 + (z / 4294967296 % 256) * 4294967296 + (z / 16777216 % 256) * 16777216 + (z / 65536 % 256) * 65536 + (z / 256 % 256) * 256 + z % 256 = z
      omega
section
variable {W w w' w0 w2 : World} {v d t wv rv dv t0 t1 : Value} {ob wob wob0 : Option Nat} {mb t3 t4 b e m n : Nat} {xs ys zs pr da : List Int} {K : Value → World → Prop} {B1 : List Value → World → Prop} {s s' s0 : Mst} {o : Op} {S S' : Nat → Prop} {L : List Value} {off width z : Int} {little : Bool}
theorem inside_ok (hn : n ≤ 4000000000000000000) (hK : K (.bool (decide (FitsP n off width))) w) : cl Try.prog 51 #[I (n : Nat), I off, I width] K w := by
  apply c51
  unfold s51_p1
  try simp only [e_fd, e_nck, e_pkt, e_pkf, e_gdtt, e_gdtf, e_gdft, e_gdff, e_ift, e_iff, e_not, e_ln, e_lnT, e_cp, e_cvi, e_ex20, e_ex21, e_ex30, e_ex31, e_ex32, e_add, e_sub, e_mul, e_quo, e_rem, e_and, e_or, e_xor, e_shl, e_shr, e_eql, e_neq, e_lss, e_leq, e_gtr, e_geq, e_beq, e_bne, e_peq1, e_peq2, e_pne1, e_pne2, e_zeq1, e_zeq2, e_zne1, e_zne2, e_feq1, e_fne1, e_feq2, e_fne2, e_seq, e_sne, e_ta1, e_ta2, Nat.zero_add, Nat.add_zero, Bool.not_true, Bool.not_false]
  have no : ¬ FitsP n off width → K (.bool false) w := fun q => by rw [decide_eq_false q] at hK; exact hK
  by_cases h1 : off < 0
  · simp only [h1, decide_true, e_fd, e_nck, e_pkt, e_pkf, e_gdtt, e_gdtf, e_gdft, e_gdff, e_ift, e_iff, e_not, e_ln, e_lnT, e_cp, e_cvi, e_ex20, e_ex21, e_ex30, e_ex31, e_ex32, e_add, e_sub, e_mul, e_quo, e_rem, e_and, e_or, e_xor, e_shl, e_shr, e_eql, e_neq, e_lss, e_leq, e_gtr, e_geq, e_beq, e_bne, e_peq1, e_peq2, e_pne1, e_pne2, e_zeq1, e_zeq2, e_zne1, e_zne2, e_feq1, e_fne1, e_feq2, e_fne2, e_seq, e_sne, e_ta1, e_ta2, Nat.zero_add, Nat.add_zero, Bool.not_true, Bool.not_false]
    exact no (fun q => by have := q.1; omega)
  simp only [h1, decide_false, e_fd, e_nck, e_pkt, e_pkf, e_gdtt, e_gdtf, e_gdft, e_gdff, e_ift, e_iff, e_not, e_ln, e_lnT, e_cp, e_cvi, e_ex20, e_ex21, e_ex30, e_ex31, e_ex32, e_add, e_sub, e_mul, e_quo, e_rem, e_and, e_or, e_xor, e_shl, e_shr, e_eql, e_neq, e_lss, e_leq, e_gtr, e_geq, e_beq, e_bne, e_peq1, e_peq2, e_pne1, e_pne2, e_zeq1, e_zeq2, e_zne1, e_zne2, e_feq1, e_fne1, e_feq2, e_fne2, e_seq, e_sne, e_ta1, e_ta2, Nat.zero_add, Nat.add_zero, Bool.not_true, Bool.not_false]
  by_cases h2 : width < 0
  · simp only [h2, decide_true, e_fd, e_nck, e_pkt, e_pkf, e_gdtt, e_gdtf, e_gdft, e_gdff, e_ift, e_iff, e_not, e_ln, e_lnT, e_cp, e_cvi, e_ex20, e_ex21, e_ex30, e_ex31, e_ex32, e_add, e_sub, e_mul, e_quo, e_rem, e_and, e_or, e_xor, e_shl, e_shr, e_eql, e_neq, e_lss, e_leq, e_gtr, e_geq, e_beq, e_bne, e_peq1, e_peq2, e_pne1, e_pne2, e_zeq1, e_zeq2, e_zne1, e_zne2, e_feq1, e_fne1, e_feq2, e_fne2, e_seq, e_sne, e_ta1, e_ta2, Nat.zero_add, Nat.add_zero, Bool.not_true, Bool.not_false]
    exact no (fun q => by have := q.2.1; omega)
  simp only [h2, decide_false, e_fd, e_nck, e_pkt, e_pkf, e_gdtt, e_gdtf, e_gdft, e_gdff, e_ift, e_iff, e_not, e_ln, e_lnT, e_cp, e_cvi, e_ex20, e_ex21, e_ex30, e_ex31, e_ex32, e_add, e_sub, e_mul, e_quo, e_rem, e_and, e_or, e_xor, e_shl, e_shr, e_eql, e_neq, e_lss, e_leq, e_gtr, e_geq, e_beq, e_bne, e_peq1, e_peq2, e_pne1, e_pne2, e_zeq1, e_zeq2, e_zne1, e_zne2, e_feq1, e_fne1, e_feq2, e_fne2, e_seq, e_sne, e_ta1, e_ta2, Nat.zero_add, Nat.add_zero, Bool.not_true, Bool.not_false]
  by_cases h3 : ((n : Nat) : Int) < off
  · simp only [h3, decide_true, e_fd, e_nck, e_pkt, e_pkf, e_gdtt, e_gdtf, e_gdft, e_gdff, e_ift, e_iff, e_not, e_ln, e_lnT, e_cp, e_cvi, e_ex20, e_ex21, e_ex30, e_ex31, e_ex32, e_add, e_sub, e_mul, e_quo, e_rem, e_and, e_or, e_xor, e_shl, e_shr, e_eql, e_neq, e_lss, e_leq, e_gtr, e_geq, e_beq, e_bne, e_peq1, e_peq2, e_pne1, e_pne2, e_zeq1, e_zeq2, e_zne1, e_zne2, e_feq1, e_fne1, e_feq2, e_fne2, e_seq, e_sne, e_ta1, e_ta2, Nat.zero_add, Nat.add_zero, Bool.not_true, Bool.not_false]
    exact no (fun q => by have := q.2.2.1; omega)
  simp only [h3, decide_false, e_fd, e_nck, e_pkt, e_pkf, e_gdtt, e_gdtf, e_gdft, e_gdff, e_ift, e_iff, e_not, e_ln, e_lnT, e_cp, e_cvi, e_ex20, e_ex21, e_ex30, e_ex31, e_ex32, e_add, e_sub, e_mul, e_quo, e_rem, e_and, e_or, e_xor, e_shl, e_shr, e_eql, e_neq, e_lss, e_leq, e_gtr, e_geq, e_beq, e_bne, e_peq1, e_peq2, e_pne1, e_pne2, e_zeq1, e_zeq2, e_zne1, e_zne2, e_feq1, e_fne1, e_feq2, e_fne2, e_seq, e_sne, e_ta1, e_ta2, Nat.zero_add, Nat.add_zero, Bool.not_true, Bool.not_false]
  rw [wrap64_id (by omega) (by omega)]
  by_cases h4 : width ≤ ((n : Nat) : Int) - off
  · rw [decide_eq_true h4]
    rw [decide_eq_true (show FitsP n off width from ⟨by omega, by omega, by omega, h4⟩)] at hK; exact hK
  · rw [decide_eq_false h4]
    exact no (fun q => h4 q.2.2.2)
theorem sls_both {o n c d h : Nat} {i1 i2 : Int} (h1 : i1 = (d : Int)) (h2 : i2 = (h : Int)) (hd : d < c) (hdh : d ≤ h) (hh : h ≤ c) (hK : K (sv b (o + d) (h - d) (c - d)) w) : sls 1 (sv b o n c) (some (.int .i64 i1)) (some (.int .i64 i2)) K w := by
  subst h1; subst h2
  refine ⟨⟨by omega, by omega, by omega⟩, ?_⟩
  have e1 : ((d : Int)).toNat = d := by omega
  have e2 : ((h : Int)).toNat = h := by omega
  rw [e1, e2, if_neg (by omega)]
  show K (.slice (some ((⟨b, o, none⟩ : Addr).add (d * 1))) _ _) w
  rw [add_mk, Nat.mul_one]
  have e3 : (((h - d : Nat)) : Int) = ((h : Int)) - (d : Int) := by omega
  exact hK
/-- one order of octets -/
theorem store_round {i : Nat} (h0 : Bs w t0 xs) (hxl : xs.length ≤ 100000000000) (hw : Wid width) (hf : FitsP xs.length off width) (hz : 0 ≤ z ∧ z ≤ 18446744073709551615) (hr : Row w b 4 [.bool false, .bool true]) (hi : i < 2)
    (hK : ∀ w', Kp (fun _ => False) w w' → B1 [t0, I off, I width, .int .u64 z, .int .u64 (cutV width z), sv b 0 2 2, I (2 : Nat), I ((i + 1 : Nat) : Nat)] w') : s25_p7 K B1 t0 (I off) (I width) (.int .u64 z) (.int .u64 (cutV width z)) (sv b 0 2 2) (I (2 : Nat)) (I (i : Nat)) w := by
  obtain ⟨f1, f2, f3, f4⟩ := hf
  obtain ⟨of, rfl⟩ : ∃ of : Nat, off = (of : Int) := ⟨off.toNat, by omega⟩
  obtain ⟨wd, rfl⟩ : ∃ wd : Nat, width = (wd : Int) := ⟨width.toNat, by omega⟩
  have hwd : 2 ≤ wd ∧ wd ≤ 8 := by rcases hw with q | q | q <;> omega
  unfold s25_p7
  refine ix_sv hi rfl ?_
  have hgi : ∃ little, [Value.bool false, .bool true][0 + i]? = some (.bool little) := by
    have : i = 0 ∨ i = 1 := by omega
    rcases this with rfl | rfl
    · exact ⟨_, rfl⟩
    · exact ⟨_, rfl⟩
  obtain ⟨little, hgi⟩ := hgi
  refine ld1_r hr hgi ?_
  refine clone_ok h0 (by omega) fun w1 c r1 hc hk1 => ?_
  have sg : Seg w1 c 0 xs [] [] := ⟨by simpa using r1, rfl, h0.by_⟩
  refine sls_from (d := of) rfl (by omega) (by omega) (Nat.le_refl _) ?_
  have sg2 := sg.drop (d := of) (by omega)
  have hdl : (xs.drop of).length = xs.length - of := List.length_drop
  rw [← hdl]
  have el := enc_len (little := little) (z := z) hw
  refine store_ok hw sg2 (by omega) (Nat.le_refl _) hz.1 fun w2 sg3 hk2 hz2 => ?_
  have k2 : Kp (fun _ => False) w w2 := hk1.then hk2 (fun k hk (q : k = _) => by omega)
  have htn : ((wd : Nat) : Int).toNat = wd := by omega
  rw [htn] at sg3
  have hel : (enc (wd : Int) little z ++ (xs.drop of).drop wd).length = xs.length - of := by
    rw [List.length_append, List.length_drop, List.length_drop]; omega
  refine sls_from (d := of) rfl (by omega) (by omega) (Nat.le_refl _) ?_
  have sgb := sg3.bs (c := xs.length - of) (by omega) (by omega)
  rw [hel] at sgb
  refine load_ok hw sgb (by omega) fun w3 hk3 => ?_
  have k3 := k2.trans hk3
  rw [dec_enc hw hz.1 hz.2]
  simp only [bne_self_eq_false, e_fd, e_nck, e_pkt, e_pkf, e_gdtt, e_gdtf, e_gdft, e_gdff, e_ift, e_iff, e_not, e_ln, e_lnT, e_cp, e_cvi, e_ex20, e_ex21, e_ex30, e_ex31, e_ex32, e_add, e_sub, e_mul, e_quo, e_rem, e_and, e_or, e_xor, e_shl, e_shr, e_eql, e_neq, e_lss, e_leq, e_gtr, e_geq, e_beq, e_bne, e_peq1, e_peq2, e_pne1, e_pne2, e_zeq1, e_zeq2, e_zne1, e_zne2, e_feq1, e_fne1, e_feq2, e_fne2, e_seq, e_sne, e_ta1, e_ta2, Nat.zero_add, Nat.add_zero, Bool.not_true, Bool.not_false]
  have sg4 := (sg3.undrop (by omega) h0.by_).kp' hk3
  have hLl : (xs.take of ++ (enc (wd : Int) little z ++ (xs.drop of).drop wd)).length = xs.length := by
    rw [List.length_append, hel, List.length_take]; omega
  have hL := sg4.bs (c := xs.length) (by omega) (by omega)
  rw [hLl] at hL
  have htl : (xs.take of).length = of := by rw [List.length_take]; omega
  have e1 : (xs.take of ++ (enc (wd : Int) little z ++ (xs.drop of).drop wd)).take of = xs.take of := List.take_left' htl
  have e2 : (xs.take of ++ (enc (wd : Int) little z ++ (xs.drop of).drop wd)).drop (of + wd) = xs.drop (of + wd) := by
    rw [← List.drop_drop, List.drop_left' htl, List.drop_left' (by omega), List.drop_drop]
  have e3 : ((xs.take of ++ (enc (wd : Int) little z ++ (xs.drop of).drop wd)).drop of).take wd = enc (wd : Int) little z := by
    rw [List.drop_left' htl, List.take_left' (by omega)]
  have sg5 : Seg w3 c of (enc (wd : Int) little z) ((xs.take of).map U8) (((xs.drop of).drop wd).map U8) := by
    have q := sg3.take (d := wd) (by omega)
    rw [List.take_left' (by omega), List.drop_left' (by omega)] at q
    have := q.kp' hk3
    simpa using this
  generalize xs.take of ++ (enc (wd : Int) little z ++ (xs.drop of).drop wd) = L at e1 e2 e3 hL hLl
  unfold s25_p6
  have k4 : Kp (fun _ => False) w3 (drw w3) := kp_drw
  generalize drw w3 = w4 at k4 ⊢
  have hL4 := hL.kp' k4
  have k04 := k3.trans k4
  have h04 := h0.kp' k04
  have sg6 := sg5.kp' k4
  refine ⟨fun w' => Kp (fun _ => False) w4 w', Kp.refl _ _, ?_⟩
  unfold s25_p6_d
  refine hL4.takeZ (n := of) rfl (by omega) fun v1 hv1 => ?_
  refine h04.takeZ (n := of) rfl (by omega) fun v2 hv2 => ?_
  refine ⟨.bool true, fun w5 hJ => same_self (xs := xs.take of) (by have := hv1 w5 (hL4.kp' hJ); rw [e1] at this; exact this) (hv2 w5 (h04.kp' hJ)) fun w6 hk6 => ⟨rfl, hJ.trans hk6⟩, ?_⟩
  simp only [Bool.not_true, e_fd, e_nck, e_pkt, e_pkf, e_gdtt, e_gdtf, e_gdft, e_gdff, e_ift, e_iff, e_not, e_ln, e_lnT, e_cp, e_cvi, e_ex20, e_ex21, e_ex30, e_ex31, e_ex32, e_add, e_sub, e_mul, e_quo, e_rem, e_and, e_or, e_xor, e_shl, e_shr, e_eql, e_neq, e_lss, e_leq, e_gtr, e_geq, e_beq, e_bne, e_peq1, e_peq2, e_pne1, e_pne2, e_zeq1, e_zeq2, e_zne1, e_zne2, e_feq1, e_fne1, e_feq2, e_fne2, e_seq, e_sne, e_ta1, e_ta2, Nat.zero_add, Nat.add_zero, Bool.not_true, Bool.not_false]
  rw [wrap64_id (by omega) (by omega), show ((of : Nat) : Int) + ((wd : Nat) : Int) = ((of + wd : Nat) : Int) by omega]
  refine hL4.dropZ (n := of + wd) rfl (by omega) fun v3 hv3 => ?_
  try simp only [e_fd, e_nck, e_pkt, e_pkf, e_gdtt, e_gdtf, e_gdft, e_gdff, e_ift, e_iff, e_not, e_ln, e_lnT, e_cp, e_cvi, e_ex20, e_ex21, e_ex30, e_ex31, e_ex32, e_add, e_sub, e_mul, e_quo, e_rem, e_and, e_or, e_xor, e_shl, e_shr, e_eql, e_neq, e_lss, e_leq, e_gtr, e_geq, e_beq, e_bne, e_peq1, e_peq2, e_pne1, e_pne2, e_zeq1, e_zeq2, e_zne1, e_zne2, e_feq1, e_fne1, e_feq2, e_fne2, e_seq, e_sne, e_ta1, e_ta2, Nat.zero_add, Nat.add_zero, Bool.not_true, Bool.not_false]
  refine h04.dropZ (n := of + wd) rfl (by omega) fun v4 hv4 => ?_
  refine ⟨.bool true, fun w5 hJ => by rw [e_gdff]; exact same_self (xs := xs.drop (of + wd)) (by have := hv3 w5 (hL4.kp' hJ); rw [e2] at this; exact this) (hv4 w5 (h04.kp' hJ)) fun w6 hk6 => ⟨rfl, hJ.trans hk6⟩, ?_⟩
  simp only [Bool.not_true, e_fd, e_nck, e_pkt, e_pkf, e_gdtt, e_gdtf, e_gdft, e_gdff, e_ift, e_iff, e_not, e_ln, e_lnT, e_cp, e_cvi, e_ex20, e_ex21, e_ex30, e_ex31, e_ex32, e_add, e_sub, e_mul, e_quo, e_rem, e_and, e_or, e_xor, e_shl, e_shr, e_eql, e_neq, e_lss, e_leq, e_gtr, e_geq, e_beq, e_bne, e_peq1, e_peq2, e_pne1, e_pne2, e_zeq1, e_zeq2, e_zne1, e_zne2, e_feq1, e_fne1, e_feq2, e_fne2, e_seq, e_sne, e_ta1, e_ta2, Nat.zero_add, Nat.add_zero, Bool.not_true, Bool.not_false]
  intro w5 hJ
  unfold s25_p5
  try simp only [e_fd, e_nck, e_pkt, e_pkf, e_gdtt, e_gdtf, e_gdft, e_gdff, e_ift, e_iff, e_not, e_ln, e_lnT, e_cp, e_cvi, e_ex20, e_ex21, e_ex30, e_ex31, e_ex32, e_add, e_sub, e_mul, e_quo, e_rem, e_and, e_or, e_xor, e_shl, e_shr, e_eql, e_neq, e_lss, e_leq, e_gtr, e_geq, e_beq, e_bne, e_peq1, e_peq2, e_pne1, e_pne2, e_zeq1, e_zeq2, e_zne1, e_zne2, e_feq1, e_fne1, e_feq2, e_fne2, e_seq, e_sne, e_ta1, e_ta2, Nat.zero_add, Nat.add_zero, Bool.not_true, Bool.not_false]
  unfold s25_p4 s25_p4_d
  have k6 : Kp (fun _ => False) w4 (drw w5) := hJ.trans kp_drw
  generalize drw w5 = w6 at k6 ⊢
  try simp only [e_fd, e_nck, e_pkt, e_pkf, e_gdtt, e_gdtf, e_gdft, e_gdff, e_ift, e_iff, e_not, e_ln, e_lnT, e_cp, e_cvi, e_ex20, e_ex21, e_ex30, e_ex31, e_ex32, e_add, e_sub, e_mul, e_quo, e_rem, e_and, e_or, e_xor, e_shl, e_shr, e_eql, e_neq, e_lss, e_leq, e_gtr, e_geq, e_beq, e_bne, e_peq1, e_peq2, e_pne1, e_pne2, e_zeq1, e_zeq2, e_zne1, e_zne2, e_feq1, e_fne1, e_feq2, e_fne2, e_seq, e_sne, e_ta1, e_ta2, Nat.zero_add, Nat.add_zero, Bool.not_true, Bool.not_false]
  rw [wrap64_id (by omega) (by omega), show ((of : Nat) : Int) + ((wd : Nat) : Int) = ((of + wd : Nat) : Int) by omega]
  refine sls_both (d := of) (h := of + wd) rfl rfl (by omega) (by omega) (by omega) ?_
  refine extend_ok hw (ob := none) ⟨rfl, rfl⟩ (by simp) hz.1 fun w7 t7 ob7 s7 hk7 ho7 => ?_
  have hk7' : Kp (fun _ => False) w6 w7 := hk7.mono fun _ _ q => by cases q
  refine ⟨hk7'.below', ?_⟩
  have sg7 := (sg6.kp' (k6.trans hk7')).bs (c := xs.length - of) (by omega) (by omega)
  rw [show (enc (wd : Int) little z).length = of + wd - of by omega] at sg7
  rw [List.nil_append] at s7
  rw [Nat.zero_add]
  refine same_self sg7 (sl_bs s7 enc_by (by omega)) fun w8 hk8 => ?_
  simp only [Bool.not_true, e_fd, e_nck, e_pkt, e_pkf, e_gdtt, e_gdtf, e_gdft, e_gdff, e_ift, e_iff, e_not, e_ln, e_lnT, e_cp, e_cvi, e_ex20, e_ex21, e_ex30, e_ex31, e_ex32, e_add, e_sub, e_mul, e_quo, e_rem, e_and, e_or, e_xor, e_shl, e_shr, e_eql, e_neq, e_lss, e_leq, e_gtr, e_geq, e_beq, e_bne, e_peq1, e_peq2, e_pne1, e_pne2, e_zeq1, e_zeq2, e_zne1, e_zne2, e_feq1, e_fne1, e_feq2, e_fne2, e_seq, e_sne, e_ta1, e_ta2, Nat.zero_add, Nat.add_zero, Bool.not_true, Bool.not_false]
  unfold s25_p3 s25_p2
  try simp only [e_fd, e_nck, e_pkt, e_pkf, e_gdtt, e_gdtf, e_gdft, e_gdff, e_ift, e_iff, e_not, e_ln, e_lnT, e_cp, e_cvi, e_ex20, e_ex21, e_ex30, e_ex31, e_ex32, e_add, e_sub, e_mul, e_quo, e_rem, e_and, e_or, e_xor, e_shl, e_shr, e_eql, e_neq, e_lss, e_leq, e_gtr, e_geq, e_beq, e_bne, e_peq1, e_peq2, e_pne1, e_pne2, e_zeq1, e_zeq2, e_zne1, e_zne2, e_feq1, e_fne1, e_feq2, e_fne2, e_seq, e_sne, e_ta1, e_ta2, Nat.zero_add, Nat.add_zero, Bool.not_true, Bool.not_false]
  rw [wrap64_id (by omega) (by omega)]
  exact hK w8 ((k04.trans k6).trans (hk7'.trans hk8))
end
end Go.Proofs.Qxb6500898a
