import Derived.Test.Qxb6500896aGreatK85
namespace Go.Proofs.Qxb6500896aGreat
open Go.Sh Go.RowKit
set_option linter.unusedVariables false
set_option linter.unusedSimpArgs false

section
variable {W w w' w0 w1 : World} {fv : Value} {ans : Rq → List Int} {Z : (Nat → Prop) → World → Prop} {V F : Nat → Prop} {ob : Nat} {d : ObD} {v kv : Value} {out : List Int} {q : Rq} {K : Value → World → Prop} {now la gr : Int}
/-- the records -/
theorem obs_ids (s : Srv W fv ans Z) {pre : List Rq} (hpl : pre.length ≤ 10) (o : Ob Z w0 w d v (pre.flatMap ans))
    (hK : ∀ w' v', Ob Z w0 w' d v' ((pre ++ (List.range 28).flatMap obsI).flatMap ans) → s26_p10 K fv (P d.cb 0) kv v' w') :
    s26_p12 K fv (P d.cb 0) kv v (I 0) w := by
  unfold s26_p12
  refine loop_n 28 (fun k l w' => ∃ v', l = [fv, P d.cb 0, kv, v', I (k : Nat)] ∧ Ob Z w0 w' d v' ((pre ++ (List.range k).flatMap obsI).flatMap ans)) ⟨v, by simp, by simpa using o⟩ ?_ ?_
  · rintro k l w1 hk ⟨v1, rfl, o1⟩ B1 hB
    rw [s26_p12_Fe]
    unfold s26_p11
    refine fdp ?_
    refine ld1_r (v := I 26) o1.cfg rfl ?_
    have e27 : IntKind.i64.wrap ((26 : Int) + 1) = 27 := by decide
    simp only [e27, e_fd, e_nck, e_pkt, e_pkf, e_gdtt, e_gdtf, e_gdft, e_gdff, e_ift, e_iff, e_not, e_ln, e_lnT, e_cp, e_cvi, e_ex20, e_ex21, e_ex30, e_ex31, e_ex32, e_add, e_sub, e_mul, e_quo, e_rem, e_and, e_or, e_xor, e_shl, e_shr, e_eql, e_neq, e_lss, e_leq, e_gtr, e_geq, e_beq, e_bne, e_peq1, e_peq2, e_pne1, e_pne2, e_zeq1, e_zeq2, e_zne1, e_zne2, e_feq1, e_fne1, e_feq2, e_fne2, e_seq, e_sne, e_ta1, e_ta2, Nat.zero_add, Nat.add_zero, Bool.not_true, Bool.not_false]
    have e1 : decide (((k : Nat) : Int) ≤ 27) = true := by simp; omega
    simp only [e1, e_fd, e_nck, e_pkt, e_pkf, e_gdtt, e_gdtf, e_gdft, e_gdff, e_ift, e_iff, e_not, e_ln, e_lnT, e_cp, e_cvi, e_ex20, e_ex21, e_ex30, e_ex31, e_ex32, e_add, e_sub, e_mul, e_quo, e_rem, e_and, e_or, e_xor, e_shl, e_shr, e_eql, e_neq, e_lss, e_leq, e_gtr, e_geq, e_beq, e_bne, e_peq1, e_peq2, e_pne1, e_pne2, e_zeq1, e_zeq2, e_zne1, e_zne2, e_feq1, e_fne1, e_feq2, e_fne2, e_seq, e_sne, e_ta1, e_ta2, Nat.zero_add, Nat.add_zero, Bool.not_true, Bool.not_false]
    have len := obsI_len k
    have hl := fl_len s.len (pre ++ (List.range k).flatMap obsI)
    rw [List.length_append] at hl
    have hs1 := s.len (qq 16 (k : Nat) 0 0 0)
    have hs2 := s.len (qq 24 (k : Nat) 0 0 0)
    refine bdq_r (l := (qq 16 (k : Nat) 0 0 0).cells nilS) rfl ?_
    refine o1.add s (qok_id _ (.inl rfl) (n63_n (by omega))) (by omega) fun w2 v2 o2 => ?_
    refine bdq_r (l := (qq 24 (k : Nat) 0 0 0).cells nilS) rfl ?_
    refine o2.add s (qok_id _ (.inr rfl) (n63_n (by omega))) (by rw [List.length_append]; omega) fun w3 v3 o3 => ?_
    refine ld1_r (v := I 5) o3.cfg rfl ?_
    have e7 : IntKind.i64.wrap ((5 : Int) + 2) = 7 := by decide
    simp only [e7, e_fd, e_nck, e_pkt, e_pkf, e_gdtt, e_gdtf, e_gdft, e_gdff, e_ift, e_iff, e_not, e_ln, e_lnT, e_cp, e_cvi, e_ex20, e_ex21, e_ex30, e_ex31, e_ex32, e_add, e_sub, e_mul, e_quo, e_rem, e_and, e_or, e_xor, e_shl, e_shr, e_eql, e_neq, e_lss, e_leq, e_gtr, e_geq, e_beq, e_bne, e_peq1, e_peq2, e_pne1, e_pne2, e_zeq1, e_zeq2, e_zne1, e_zne2, e_feq1, e_fne1, e_feq2, e_fne2, e_seq, e_sne, e_ta1, e_ta2, Nat.zero_add, Nat.add_zero, Bool.not_true, Bool.not_false]
    refine ⟨by decide, ?_⟩
    have em : ((k : Nat) : Int).tmod 7 = ((k % 7 : Nat) : Int) := by
      rw [show (7 : Int) = ((7 : Nat) : Int) from rfl, ← Int.ofNat_tmod]
    rw [em]
    refine bdq_r (l := (qq 17 (k : Nat) 0 0 ((k % 7 : Nat) : Int)).cells nilS) rfl ?_
    refine o3.add s (qok_list (n63_n (by omega)) (n63_n (by have := Nat.mod_lt k (show 0 < 7 by decide); omega))) (by rw [List.length_append, List.length_append]; omega) fun w4 v4 o4 => ?_
    try simp only [e_fd, e_nck, e_pkt, e_pkf, e_gdtt, e_gdtf, e_gdft, e_gdff, e_ift, e_iff, e_not, e_ln, e_lnT, e_cp, e_cvi, e_ex20, e_ex21, e_ex30, e_ex31, e_ex32, e_add, e_sub, e_mul, e_quo, e_rem, e_and, e_or, e_xor, e_shl, e_shr, e_eql, e_neq, e_lss, e_leq, e_gtr, e_geq, e_beq, e_bne, e_peq1, e_peq2, e_pne1, e_pne2, e_zeq1, e_zeq2, e_zne1, e_zne2, e_feq1, e_fne1, e_feq2, e_fne2, e_seq, e_sne, e_ta1, e_ta2, Nat.zero_add, Nat.add_zero, Bool.not_true, Bool.not_false]
    rw [inc k (by omega)]
    refine hB _ _ ⟨v4, rfl, ?_⟩
    rw [rg_snoc, ← List.append_assoc, fl_app]
    have e5 : (obsI k).flatMap ans = ans (qq 16 (k : Nat) 0 0 0) ++ (ans (qq 24 (k : Nat) 0 0 0) ++ ans (qq 17 (k : Nat) 0 0 ((k % 7 : Nat) : Int))) := by
      unfold obsI
      simp
    rw [e5, ← List.append_assoc, ← List.append_assoc]
    exact o4
  · rintro l w1 ⟨v1, rfl, o1⟩ B1
    rw [s26_p12_Fe]
    unfold s26_p11
    refine fdp ?_
    refine ld1_r (v := I 26) o1.cfg rfl ?_
    have e27 : IntKind.i64.wrap ((26 : Int) + 1) = 27 := by decide
    simp only [e27, e_fd, e_nck, e_pkt, e_pkf, e_gdtt, e_gdtf, e_gdft, e_gdff, e_ift, e_iff, e_not, e_ln, e_lnT, e_cp, e_cvi, e_ex20, e_ex21, e_ex30, e_ex31, e_ex32, e_add, e_sub, e_mul, e_quo, e_rem, e_and, e_or, e_xor, e_shl, e_shr, e_eql, e_neq, e_lss, e_leq, e_gtr, e_geq, e_beq, e_bne, e_peq1, e_peq2, e_pne1, e_pne2, e_zeq1, e_zeq2, e_zne1, e_zne2, e_feq1, e_fne1, e_feq2, e_fne2, e_seq, e_sne, e_ta1, e_ta2, Nat.zero_add, Nat.add_zero, Bool.not_true, Bool.not_false]
    have e1 : decide (((28 : Nat) : Int) ≤ 27) = false := by decide
    simp only [e1, e_fd, e_nck, e_pkt, e_pkf, e_gdtt, e_gdtf, e_gdft, e_gdff, e_ift, e_iff, e_not, e_ln, e_lnT, e_cp, e_cvi, e_ex20, e_ex21, e_ex30, e_ex31, e_ex32, e_add, e_sub, e_mul, e_quo, e_rem, e_and, e_or, e_xor, e_shl, e_shr, e_eql, e_neq, e_lss, e_leq, e_gtr, e_geq, e_beq, e_bne, e_peq1, e_peq2, e_pne1, e_pne2, e_zeq1, e_zeq2, e_zne1, e_zne2, e_feq1, e_fne1, e_feq2, e_fne2, e_seq, e_sne, e_ta1, e_ta2, Nat.zero_add, Nat.add_zero, Bool.not_true, Bool.not_false]
    exact hK w1 v1 o1
theorem obs_eq (ans : Rq → List Int) (now : Int) : (([qq 20 0 0 0 0, qq 23 0 0 0 0] ++ (List.range 28).flatMap obsI) ++ (List.range 4).flatMap (obsA now)).flatMap ans = (obs now).flatMap ans := rfl
set_option maxHeartbeats 1000000 in
/-- all that can be asked -/
theorem observe_ok (s : Srv W fv ans Z) (z : Z V w) (hclk : ans (qq 20 0 0 0 0) = 0 :: 20 :: (uI now ++ (uI la ++ (uI gr ++ [])))) (hn : 0 ≤ now ∧ now ≤ 1000000) (hla : N63 la) (hgr : N63 gr)
    (hK : ∀ w' v' b V', Z V' w' → (∀ c, V c → V' c) → V' b → w.heap.size ≤ b → Sl bC 1 w' 5 (some b) v' ((obs now).flatMap ans) → Stay V w w' → K v' w') : cl Tryz.prog 26 #[fv] K w := by
  apply c26
  unfold s26_p13
  have hlt := s.lt z
  refine park_raw fun w1 ab tb r0 r1 r2 hk1 na nt n0 n1 n2 ra q0 q1 q2 qt => ?_
  refine nw_r fun w2 r2 hk2 hz2 => ?_
  refine stn_r (cs := park.cells (.slice (some ⟨ab, 0, none⟩) 3 3) (.slice (some ⟨tb, 0, none⟩) 3 3)) r2 rfl (show 0 + 14 ≤ 14 by decide) rfl fun w3 r3 hk3 hz3 => ?_
  replace r3 : Row w3 w1.heap.size 34 (park.cells (.slice (some ⟨ab, 0, none⟩) 3 3) (.slice (some ⟨tb, 0, none⟩) 3 3)) := r3
  have s1 := hk1.size
  have k3 : Kp Emp w w3 := (hk1.trans hk2).then hk3 fun b hb (q : b = _) => by omega
  have z3 := s.gro (S := Emp) z k3 fun b q => q.elim
  have hcb : Nb w w3 w1.heap.size := ⟨s1, by omega⟩
  generalize w1.heap.size = cb at r3 hcb ⊢
  refine bdq_r (l := (qq 20 0 0 0 0).cells nilS) rfl ?_
  refine s.put z3 (qok_none _ (.inl rfl)) fun w4 v4 b4 V4 z4 hV4 hb4 hbn4 sl4 st4 => ?_
  have hlen4 := s.len (qq 20 0 0 0 0)
  refine Sl.empty (f := bC) (k := 1) fun w5 sl5 hk5 hz5 => ?_
  have sl45 := sl4.kp' hk5
  refine Sl.app3 bC_len rfl (fun y _ => rfl) sl5 (sl45.rds bC_len) (by simp; omega) (by simp; omega) fun w6 v6 ob6 sl6 hk6 ho6 => ?_
  obtain ⟨ob, rfl⟩ : ∃ b, ob6 = some b := by
    rcases ho6 with q | ⟨b, q, _⟩
    · exact ⟨_, q⟩
    · exact ⟨b, q⟩
  have hob : w4.heap.size ≤ ob := by
    rcases ho6 with q | ⟨b, q, hb⟩
    · cases q; exact Nat.le_refl _
    · cases q; omega
  rw [List.nil_append] at sl6
  have z6 := s.gro (s.gro (S := Emp) z4 hk5 fun b q => q.elim) hk6 fun b q => by cases q; exact .inr ⟨Nat.le_refl _, by omega⟩
  have s4 := st4.1
  have s3 := k3.size
  have s6 := hk6.size
  have lt4 := s.lt z4
  have b4lt := lt4 b4 hb4
  obtain ⟨cap4, junk4, ev4, e24, e34, rk4⟩ := id sl4
  have st6 : Stay V w w6 := ⟨by omega, fun c hc T l r => hk6.row (hk5.row' (st4.2 c (.inl hc) T l (k3.row' r))) fun q => by have := Option.some.inj q; have := hlt c hc; omega⟩
  have rk6 := hk6.row (hk5.row' rk4) fun q => by have := Option.some.inj q; omega
  have o6 : Ob Z w w6 ⟨V, cb, .slice (some ⟨ab, 0, none⟩) 3 3, .slice (some ⟨tb, 0, none⟩) 3 3, b4, rows bC (ans (qq 20 0 0 0 0)) ++ junk4⟩ v6 ([qq 20 0 0 0 0].flatMap ans) := by
    refine ⟨⟨_, ob, z6, fun c hc => .inl (.inl (hV4 c (.inl hc))), by simpa using sl6, ?_, by omega, ⟨.inl (.inl (hV4 cb (.inr hcb))), by have := hcb.2; show cb ≠ ob; omega, ?_⟩, .inl (.inl hb4), by show b4 ≠ ob; omega, rk6⟩, st6, hlt⟩
    · by_cases h : ob < w5.heap.size
      · exact .inl (.inr ⟨hob, h⟩)
      · exact .inr ⟨by omega, sl6.lt⟩
    · exact hk6.row (hk5.row' (st4.2 cb (.inr hcb) _ _ r3)) fun q => by have q1 : w4.heap.size = cb := Option.some.inj q; have := hcb.2; omega
  refine bdq_r (l := (qq 23 0 0 0 0).cells nilS) rfl ?_
  refine o6.add s (qok_none _ (.inr rfl)) (by simp; omega) fun w7 v7 o7 => ?_
  have e7 : [qq 20 0 0 0 0].flatMap ans ++ ans (qq 23 0 0 0 0) = [qq 20 0 0 0 0, qq 23 0 0 0 0].flatMap ans := by simp
  rw [e7] at o7
  refine obs_ids s (by decide) o7 fun w8 v8 o8 => ?_
  unfold s26_p10
  have ar8 : Ar bC 1 (fun c => c = b4) w8 v4 (ans (qq 20 0 0 0 0)) := by
    exact Go.Sh.Sl.arb (T := 5) ⟨cap4, junk4, ev4, e24, e34, o8.clk⟩ (by omega)
  rw [hclk] at ar8
  have b4lt8 : b4 < w8.heap.size := o8.clk.lt
  refine decClk_ok ar8 (fun b (q : b = _) => by rw [q]; exact b4lt8) ⟨hn.1, by omega⟩ hla hgr fun w9 l9 hk9 hl9 hs9 h69 => ?_
  have o9 := o8.emp s hk9
  simp only [ex2_0, ex2_1]
  refine nw_r fun w10 r10 hk10 hz10 => ?_
  have o10 := o9.emp s hk10
  refine stn_r (cs := l9) r10 hl9 (show 0 + 34 ≤ 34 by decide) hs9 fun w11 r11 hk11 hz11 => ?_
  rw [List.take_zero, List.nil_append, Nat.zero_add, List.drop_of_length_le (by decide), List.append_nil] at r11
  have o11 := o9.emp s (hk10.then hk11 fun b hb (q : b = _) => by omega)
  refine sw_t ?_
  refine fdp ?_
  refine ld1_r (v := I now) r11 h69 ?_
  refine obs_attrs s hn (by rw [List.length_append, obsI_len]; decide) o11 (fun {w' X} h => h) fun w12 v12 o12 => ?_
  rw [obs_eq] at o12
  obtain ⟨V12, ob12, z12, h0, sl12, h1, h2, _⟩ := o12.ex
  exact hK w12 v12 ob12 V12 z12 h0 h1 h2 sl12 o12.st
end
end Go.Proofs.Qxb6500896aGreat
