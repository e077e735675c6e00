import Derived.Test.Qxb6500894aDoorF5
namespace Go.Proofs.Qxb6500894aDoor
open Go.Sh Go.RowKit
set_option linter.unusedVariables false
set_option linter.unusedSimpArgs false

set_option maxRecDepth 100000 in
theorem u174 : Tryd.prog.underlying 174 = some (.pointer 194) := by kernel_rfl
set_option maxRecDepth 100000 in
theorem i194 : (Tryd.prog.info? 194).isSome = true := by kernel_rfl
set_option maxRecDepth 100000 in
theorem k174 : (Tryd.prog.info? 174).map (·.comparable) = some true := by kernel_rfl
set_option maxRecDepth 100000 in
theorem g70 : Tryd.prog.eqGuardType Tryd.prog.depth 70 = false := by kernel_rfl
set_option maxRecDepth 100000 in
theorem f70 : Tryd.prog.underlying 70 = some (.struct (Tryd.prog.fieldsOf 70)) := by kernel_rfl
set_option maxRecDepth 100000 in
theorem s70 : Tryd.prog.stoodInHeld 70 = false := by kernel_rfl
set_option maxRecDepth 100000 in
theorem flat70 (a b c d k : Int) : flatG Tryd.prog [I a, I b, I c, I d, U8 k] [I a, I b, I c, I d, U8 k] (Tryd.prog.fieldsOf 70).toList = some [(.i64, a, a), (.i64, b, b), (.i64, c, c), (.i64, d, d), (.u8, k, k)] := by kernel_rfl
theorem neq70 {a b c d k : Int} {x y : Operand} {K : Value → World → Prop} {w : World} (hK : K (.bool false) w) : bor Tryd.prog .neq 70 x y (.agg [I a, I b, I c, I d, U8 k].toArray) (.agg [I a, I b, I c, I d, U8 k].toArray) K w := by
  refine bor_neq_flatG (P := Tryd.prog) (t := 70) (x := x) (y := y) (K := K) (w := w) (xs := [I a, I b, I c, I d, U8 k]) (ys := [I a, I b, I c, I d, U8 k]) (ps := [(.i64, a, a), (.i64, b, b), (.i64, c, c), (.i64, d, d), (.u8, k, k)]) g70 f70 s70 (flat70 a b c d k) ?_
  simp only [List.all_cons, List.all_nil, beq_self_eq_true, Bool.and_true, Bool.not_true]
  exact hK
theorem take5 {cs : List Value} {a b c d : Value} (h5 : cs[5]? = some a) (h6 : cs[6]? = some b) (h7 : cs[7]? = some c) (h8 : cs[8]? = some d) : (cs.drop 5).take 4 = [a, b, c, d] := by
  match cs, h5, h6, h7, h8 with
  | _ :: _ :: _ :: _ :: _ :: _ :: _ :: _ :: _ :: r, h5, h6, h7, h8 =>
    simp at h5 h6 h7 h8
    simp [h5, h6, h7, h8]

theorem law8 {W : World} {F : Nat} {v : Value} {xs : List Rc} {a0 : Addr} (hs : Scr W F v xs) (hg : W.cell? ⟨0, 0, none⟩ = some (.iface 174 (.pointer (some a0)))) : cl Tryd.prog 8 #[v] (fun r w' => r = .bool true ∧ Below W.heap.size W w') W := by
  have hxn := hs.len
  apply c8
  unfold s8_p5
  refine small_ok hs (Below.refl _ _) fun w1 r hk1 hr => ?_
  have hb1 : Below W.heap.size W w1 := hk1.below'
  try simp only [e_fd, e_nck, e_pkt, e_pkf, e_gdtt, e_gdtf, e_gdft, e_gdff, e_ift, e_iff, e_not, e_ln, e_lnT, e_cp, e_cvi, e_ex20, e_ex21, e_ex30, e_ex31, e_ex32, e_add, e_sub, e_mul, e_quo, e_rem, e_and, e_or, e_xor, e_shl, e_shr, e_eql, e_neq, e_lss, e_leq, e_gtr, e_geq, e_beq, e_bne, e_peq1, e_peq2, e_pne1, e_pne2, e_zeq1, e_zeq2, e_zne1, e_zne2, e_feq1, e_fne1, e_feq2, e_fne2, e_seq, e_sne, e_ta1, e_ta2, Nat.zero_add, Nat.add_zero, Bool.not_true, Bool.not_false]
  cases r with
  | false =>
    simp only [Bool.not_false, e_fd, e_nck, e_pkt, e_pkf, e_gdtt, e_gdtf, e_gdft, e_gdff, e_ift, e_iff, e_not, e_ln, e_lnT, e_cp, e_cvi, e_ex20, e_ex21, e_ex30, e_ex31, e_ex32, e_add, e_sub, e_mul, e_quo, e_rem, e_and, e_or, e_xor, e_shl, e_shr, e_eql, e_neq, e_lss, e_leq, e_gtr, e_geq, e_beq, e_bne, e_peq1, e_peq2, e_pne1, e_pne2, e_zeq1, e_zeq2, e_zne1, e_zne2, e_feq1, e_fne1, e_feq2, e_fne2, e_seq, e_sne, e_ta1, e_ta2, Nat.zero_add, Nat.add_zero, Bool.not_true, Bool.not_false]
    exact ⟨trivial, hb1⟩
  | true =>
    simp only [Bool.not_true, e_fd, e_nck, e_pkt, e_pkf, e_gdtt, e_gdtf, e_gdft, e_gdff, e_ift, e_iff, e_not, e_ln, e_lnT, e_cp, e_cvi, e_ex20, e_ex21, e_ex30, e_ex31, e_ex32, e_add, e_sub, e_mul, e_quo, e_rem, e_and, e_or, e_xor, e_shl, e_shr, e_eql, e_neq, e_lss, e_leq, e_gtr, e_geq, e_beq, e_bne, e_peq1, e_peq2, e_pne1, e_pne2, e_zeq1, e_zeq2, e_zne1, e_zne2, e_feq1, e_fne1, e_feq2, e_fne2, e_seq, e_sne, e_ta1, e_ta2, Nat.zero_add, Nat.add_zero, Bool.not_true, Bool.not_false]
    refine hs.ln ?_
    unfold s8_p4
    refine ⟨fun m l w' => ∃ i : Nat, i ≤ xs.length ∧ m = xs.length - i ∧ l = [v, I xs.length, I i] ∧ Kp (fun _ => False) W w',
      xs.length, ⟨0, by omega, by omega, rfl, hk1⟩, ?_⟩
    rintro m l w2 ⟨i, hi, hm, rfl, hk2⟩
    rw [s8_p4_Fe]
    have hb2 : Below W.heap.size W w2 := hk2.below'
    unfold s8_p3
    try simp only [e_fd, e_nck, e_pkt, e_pkf, e_gdtt, e_gdtf, e_gdft, e_gdff, e_ift, e_iff, e_not, e_ln, e_lnT, e_cp, e_cvi, e_ex20, e_ex21, e_ex30, e_ex31, e_ex32, e_add, e_sub, e_mul, e_quo, e_rem, e_and, e_or, e_xor, e_shl, e_shr, e_eql, e_neq, e_lss, e_leq, e_gtr, e_geq, e_beq, e_bne, e_peq1, e_peq2, e_pne1, e_pne2, e_zeq1, e_zeq2, e_zne1, e_zne2, e_feq1, e_fne1, e_feq2, e_fne2, e_seq, e_sne, e_ta1, e_ta2, Nat.zero_add, Nat.add_zero, Bool.not_true, Bool.not_false]
    by_cases hlt : i < xs.length
    · have hlt' : (i : Int) < (xs.length : Int) := by omega
      simp only [hlt', decide_true, e_fd, e_nck, e_pkt, e_pkf, e_gdtt, e_gdtf, e_gdft, e_gdff, e_ift, e_iff, e_not, e_ln, e_lnT, e_cp, e_cvi, e_ex20, e_ex21, e_ex30, e_ex31, e_ex32, e_add, e_sub, e_mul, e_quo, e_rem, e_and, e_or, e_xor, e_shl, e_shr, e_eql, e_neq, e_lss, e_leq, e_gtr, e_geq, e_beq, e_bne, e_peq1, e_peq2, e_pne1, e_pne2, e_zeq1, e_zeq2, e_zne1, e_zne2, e_feq1, e_fne1, e_feq2, e_fne2, e_seq, e_sne, e_ta1, e_ta2, Nat.zero_add, Nat.add_zero, Bool.not_true, Bool.not_false]
      have hx := hs.1 _ (List.getElem_mem hlt)
      obtain ⟨a, b, c, d, k, h5, h6, h7, h8, h18, ra, rb, rc, rd, rk⟩ := hx.loc
      refine hs.ix hlt fun bb o hc => ?_
      refine (hc.below hb2).ldn hx.len ?_
      refine nw_r fun w3 r3 hb3 hz3 => ?_
      refine stn_r r3 hx.len (Nat.le_of_ble_eq_true rfl) hx.sc fun w4 r4 hb4 hz4 => ?_
      have e4 : List.take 0 (#[(.int .i64 0), (.int .i64 0), (.int .u32 0), (.int .i64 0), (.int .u8 0), (.int .i64 0), (.int .i64 0), (.int .i64 0), (.int .i64 0), (.string ⟨#[]⟩), (.string ⟨#[]⟩), (.slice none 0 0), (.string ⟨#[]⟩), (.string ⟨#[]⟩), (.string ⟨#[]⟩), (.string ⟨#[]⟩), (.string ⟨#[]⟩), (.slice none 0 0), (.int .u8 0), (.slice none 0 0)] : Array Value).toList ++ (xs[i].cs ++ List.drop (0 + 20) (#[(.int .i64 0), (.int .i64 0), (.int .u32 0), (.int .i64 0), (.int .u8 0), (.int .i64 0), (.int .i64 0), (.int .i64 0), (.int .i64 0), (.string ⟨#[]⟩), (.string ⟨#[]⟩), (.slice none 0 0), (.string ⟨#[]⟩), (.string ⟨#[]⟩), (.string ⟨#[]⟩), (.string ⟨#[]⟩), (.string ⟨#[]⟩), (.slice none 0 0), (.int .u8 0), (.slice none 0 0)] : Array Value).toList) = xs[i].cs := by
        show [] ++ (xs[i].cs ++ []) = xs[i].cs
        simp
      rw [e4] at r4
      have k4 : Kp (fun _ => False) W w4 := hk2.trans (hb3.then hb4 (by intro y hy (e : y = _); omega))
      try simp only [e_fd, e_nck, e_pkt, e_pkf, e_gdtt, e_gdtf, e_gdft, e_gdff, e_ift, e_iff, e_not, e_ln, e_lnT, e_cp, e_cvi, e_ex20, e_ex21, e_ex30, e_ex31, e_ex32, e_add, e_sub, e_mul, e_quo, e_rem, e_and, e_or, e_xor, e_shl, e_shr, e_eql, e_neq, e_lss, e_leq, e_gtr, e_geq, e_beq, e_bne, e_peq1, e_peq2, e_pne1, e_pne2, e_zeq1, e_zeq2, e_zne1, e_zne2, e_feq1, e_fne1, e_feq2, e_fne2, e_seq, e_sne, e_ta1, e_ta2, Nat.zero_add, Nat.add_zero, Bool.not_true, Bool.not_false]
      have hlen := hx.len
      refine ldn_r r4 (by omega) ?_
      rw [take5 h5 h6 h7 h8]
      try simp only [e_fd, e_nck, e_pkt, e_pkf, e_gdtt, e_gdtf, e_gdft, e_gdff, e_ift, e_iff, e_not, e_ln, e_lnT, e_cp, e_cvi, e_ex20, e_ex21, e_ex30, e_ex31, e_ex32, e_add, e_sub, e_mul, e_quo, e_rem, e_and, e_or, e_xor, e_shl, e_shr, e_eql, e_neq, e_lss, e_leq, e_gtr, e_geq, e_beq, e_bne, e_peq1, e_peq2, e_pne1, e_pne2, e_zeq1, e_zeq2, e_zne1, e_zne2, e_feq1, e_fne1, e_feq2, e_fne2, e_seq, e_sne, e_ta1, e_ta2, Nat.zero_add, Nat.add_zero, Bool.not_true, Bool.not_false]
      refine ld1_r r4 h18 ?_
      refine bdq_r (l := [I a, I b, I c, I d, U8 k]) rfl ?_
      refine nw_r fun w5 r5 hk5 hz5 => ?_
      refine stn_r (cs := [I a, I b, I c, I d, U8 k]) r5 rfl (show 0 + 5 ≤ 5 by decide) rfl fun w6 r6 hk6 hz6 => ?_
      replace r6 : Row w6 w4.heap.size 70 [I a, I b, I c, I d, U8 k] := r6
      have k6 : Kp (fun _ => False) W w6 := k4.trans (hk5.then hk6 (by intro y hy (e : y = _); omega))
      refine ldn_r r6 (show 0 + 5 ≤ 5 by decide) ?_
      refine appendRej_ok ra rb rc rd fun w7 t7 eb s7 he7 hk7 => ?_
      have k7 := k6.trans hk7
      refine decode_ok ra rb rc rd s7 (kp_cell k7 (fun q => q) hg) fun w8 hk8 => ?_
      have k8 := k7.trans hk8
      have r8 := hk8.row' (hk7.row' r6)
      have next : ∀ w', Kp (fun _ => False) W w' → s8_p2 (fun r w' => r = .bool true ∧ Below W.heap.size W w') (fun l' w' => ∃ m', m' < m ∧ ∃ i : Nat, i ≤ xs.length ∧ m' = xs.length - i ∧ l' = [v, I xs.length, I i] ∧ Kp (fun _ => False) W w') v (I xs.length) (I i) w' := by
        intro w' hw'
        unfold s8_p2
        try simp only [e_fd, e_nck, e_pkt, e_pkf, e_gdtt, e_gdtf, e_gdft, e_gdff, e_ift, e_iff, e_not, e_ln, e_lnT, e_cp, e_cvi, e_ex20, e_ex21, e_ex30, e_ex31, e_ex32, e_add, e_sub, e_mul, e_quo, e_rem, e_and, e_or, e_xor, e_shl, e_shr, e_eql, e_neq, e_lss, e_leq, e_gtr, e_geq, e_beq, e_bne, e_peq1, e_peq2, e_pne1, e_pne2, e_zeq1, e_zeq2, e_zne1, e_zne2, e_feq1, e_fne1, e_feq2, e_fne2, e_seq, e_sne, e_ta1, e_ta2, Nat.zero_add, Nat.add_zero, Bool.not_true, Bool.not_false]
        rw [wrap64_id (by omega) (by omega)]
        exact ⟨xs.length - (i + 1), by omega, i + 1, by omega, rfl, by simp, hw'⟩
      unfold decR
      by_cases hk : k = 0 ∨ 16 ≤ k
      · rw [if_pos hk]
        try simp only [e_fd, e_nck, e_pkt, e_pkf, e_gdtt, e_gdtf, e_gdft, e_gdff, e_ift, e_iff, e_not, e_ln, e_lnT, e_cp, e_cvi, e_ex20, e_ex21, e_ex30, e_ex31, e_ex32, e_add, e_sub, e_mul, e_quo, e_rem, e_and, e_or, e_xor, e_shl, e_shr, e_eql, e_neq, e_lss, e_leq, e_gtr, e_geq, e_beq, e_bne, e_peq1, e_peq2, e_pne1, e_pne2, e_zeq1, e_zeq2, e_zne1, e_zne2, e_feq1, e_fne1, e_feq2, e_fne2, e_seq, e_sne, e_ta1, e_ta2, Nat.zero_add, Nat.add_zero, Bool.not_true, Bool.not_false]
        refine nw_r fun w9 r9 hk9 hz9 => ?_
        refine stn_r (cs := zero5) r9 rfl (show 0 + 5 ≤ 5 by decide) rfl fun w10 r10 hk10 hz10 => ?_
        have k910 : Kp (fun _ => False) w8 w10 := hk9.then hk10 (by intro y hy (e : y = _); omega)
        have k10 := k8.trans k910
        have r610 := k910.row' r8
        try simp only [e_fd, e_nck, e_pkt, e_pkf, e_gdtt, e_gdtf, e_gdft, e_gdff, e_ift, e_iff, e_not, e_ln, e_lnT, e_cp, e_cvi, e_ex20, e_ex21, e_ex30, e_ex31, e_ex32, e_add, e_sub, e_mul, e_quo, e_rem, e_and, e_or, e_xor, e_shl, e_shr, e_eql, e_neq, e_lss, e_leq, e_gtr, e_geq, e_beq, e_bne, e_peq1, e_peq2, e_pne1, e_pne2, e_zeq1, e_zeq2, e_zne1, e_zne2, e_feq1, e_fne1, e_feq2, e_fne2, e_seq, e_sne, e_ta1, e_ta2, Nat.zero_add, Nat.add_zero, Bool.not_true, Bool.not_false]
        refine ld1_r r610 rfl ?_
        try simp only [e_fd, e_nck, e_pkt, e_pkf, e_gdtt, e_gdtf, e_gdft, e_gdff, e_ift, e_iff, e_not, e_ln, e_lnT, e_cp, e_cvi, e_ex20, e_ex21, e_ex30, e_ex31, e_ex32, e_add, e_sub, e_mul, e_quo, e_rem, e_and, e_or, e_xor, e_shl, e_shr, e_eql, e_neq, e_lss, e_leq, e_gtr, e_geq, e_beq, e_bne, e_peq1, e_peq2, e_pne1, e_pne2, e_zeq1, e_zeq2, e_zne1, e_zne2, e_feq1, e_fne1, e_feq2, e_fne2, e_seq, e_sne, e_ta1, e_ta2, Nat.zero_add, Nat.add_zero, Bool.not_true, Bool.not_false]
        have fin : ld1 (.pointer (some ⟨0, 0, none⟩)) (fun t38 w => boF Tryd.prog false .neq (.iface 174 (.pointer (some a0))) t38 (fun t39 w => ifb t39 ((fun (r : Value) (w' : World) => r = .bool true ∧ Below W.heap.size W w') (.bool false) w) (s8_p2 (fun r w' => r = .bool true ∧ Below W.heap.size W w') (fun l' w' => ∃ m', m' < m ∧ ∃ i : Nat, i ≤ xs.length ∧ m' = xs.length - i ∧ l' = [v, I xs.length, I i] ∧ Kp (fun _ => False) W w') v (I xs.length) (I i) w)) w) w10 := by
          refine ldg (kp_cell k10 (fun q => q) hg) ?_
          refine boF_pn u174 i194 k174 ?_
          try simp only [e_fd, e_nck, e_pkt, e_pkf, e_gdtt, e_gdtf, e_gdft, e_gdff, e_ift, e_iff, e_not, e_ln, e_lnT, e_cp, e_cvi, e_ex20, e_ex21, e_ex30, e_ex31, e_ex32, e_add, e_sub, e_mul, e_quo, e_rem, e_and, e_or, e_xor, e_shl, e_shr, e_eql, e_neq, e_lss, e_leq, e_gtr, e_geq, e_beq, e_bne, e_peq1, e_peq2, e_pne1, e_pne2, e_zeq1, e_zeq2, e_zne1, e_zne2, e_feq1, e_fne1, e_feq2, e_fne2, e_seq, e_sne, e_ta1, e_ta2, Nat.zero_add, Nat.add_zero, Bool.not_true, Bool.not_false]
          exact next w10 k10
        by_cases hk0 : k = 0
        · have e3 : (k == 0) = true := by rw [beq_iff_eq]; exact hk0
          simp only [e3, e_fd, e_nck, e_pkt, e_pkf, e_gdtt, e_gdtf, e_gdft, e_gdff, e_ift, e_iff, e_not, e_ln, e_lnT, e_cp, e_cvi, e_ex20, e_ex21, e_ex30, e_ex31, e_ex32, e_add, e_sub, e_mul, e_quo, e_rem, e_and, e_or, e_xor, e_shl, e_shr, e_eql, e_neq, e_lss, e_leq, e_gtr, e_geq, e_beq, e_bne, e_peq1, e_peq2, e_pne1, e_pne2, e_zeq1, e_zeq2, e_zne1, e_zne2, e_feq1, e_fne1, e_feq2, e_fne2, e_seq, e_sne, e_ta1, e_ta2, Nat.zero_add, Nat.add_zero, Bool.not_true, Bool.not_false]
          exact fin
        · have e3 : (k == 0) = false := by rw [beq_eq_false_iff_ne]; exact hk0
          have h16 : 16 ≤ k := by omega
          simp only [e3, e_fd, e_nck, e_pkt, e_pkf, e_gdtt, e_gdtf, e_gdft, e_gdff, e_ift, e_iff, e_not, e_ln, e_lnT, e_cp, e_cvi, e_ex20, e_ex21, e_ex30, e_ex31, e_ex32, e_add, e_sub, e_mul, e_quo, e_rem, e_and, e_or, e_xor, e_shl, e_shr, e_eql, e_neq, e_lss, e_leq, e_gtr, e_geq, e_beq, e_bne, e_peq1, e_peq2, e_pne1, e_pne2, e_zeq1, e_zeq2, e_zne1, e_zne2, e_feq1, e_fne1, e_feq2, e_fne2, e_seq, e_sne, e_ta1, e_ta2, Nat.zero_add, Nat.add_zero, Bool.not_true, Bool.not_false]
          refine ld1_r r610 rfl ?_
          simp only [h16, decide_true, e_fd, e_nck, e_pkt, e_pkf, e_gdtt, e_gdtf, e_gdft, e_gdff, e_ift, e_iff, e_not, e_ln, e_lnT, e_cp, e_cvi, e_ex20, e_ex21, e_ex30, e_ex31, e_ex32, e_add, e_sub, e_mul, e_quo, e_rem, e_and, e_or, e_xor, e_shl, e_shr, e_eql, e_neq, e_lss, e_leq, e_gtr, e_geq, e_beq, e_bne, e_peq1, e_peq2, e_pne1, e_pne2, e_zeq1, e_zeq2, e_zne1, e_zne2, e_feq1, e_fne1, e_feq2, e_fne2, e_seq, e_sne, e_ta1, e_ta2, Nat.zero_add, Nat.add_zero, Bool.not_true, Bool.not_false]
          exact fin
      · rw [if_neg hk]
        try simp only [e_fd, e_nck, e_pkt, e_pkf, e_gdtt, e_gdtf, e_gdft, e_gdff, e_ift, e_iff, e_not, e_ln, e_lnT, e_cp, e_cvi, e_ex20, e_ex21, e_ex30, e_ex31, e_ex32, e_add, e_sub, e_mul, e_quo, e_rem, e_and, e_or, e_xor, e_shl, e_shr, e_eql, e_neq, e_lss, e_leq, e_gtr, e_geq, e_beq, e_bne, e_peq1, e_peq2, e_pne1, e_pne2, e_zeq1, e_zeq2, e_zne1, e_zne2, e_feq1, e_fne1, e_feq2, e_fne2, e_seq, e_sne, e_ta1, e_ta2, Nat.zero_add, Nat.add_zero, Bool.not_true, Bool.not_false]
        refine nw_r fun w9 r9 hk9 hz9 => ?_
        refine stn_r (cs := [I a, I b, I c, I d, U8 k]) r9 rfl (show 0 + 5 ≤ 5 by decide) rfl fun w10 r10 hk10 hz10 => ?_
        replace r10 : Row w10 w8.heap.size 70 [I a, I b, I c, I d, U8 k] := r10
        have k910 : Kp (fun _ => False) w8 w10 := hk9.then hk10 (by intro y hy (e : y = _); omega)
        have k10 := k8.trans k910
        have r610 := k910.row' r8
        try simp only [e_fd, e_nck, e_pkt, e_pkf, e_gdtt, e_gdtf, e_gdft, e_gdff, e_ift, e_iff, e_not, e_ln, e_lnT, e_cp, e_cvi, e_ex20, e_ex21, e_ex30, e_ex31, e_ex32, e_add, e_sub, e_mul, e_quo, e_rem, e_and, e_or, e_xor, e_shl, e_shr, e_eql, e_neq, e_lss, e_leq, e_gtr, e_geq, e_beq, e_bne, e_peq1, e_peq2, e_pne1, e_pne2, e_zeq1, e_zeq2, e_zne1, e_zne2, e_feq1, e_fne1, e_feq2, e_fne2, e_seq, e_sne, e_ta1, e_ta2, Nat.zero_add, Nat.add_zero, Bool.not_true, Bool.not_false]
        refine ld1_r r610 rfl ?_
        have e3 : (k == 0) = false := by rw [beq_eq_false_iff_ne]; omega
        simp only [e3, e_fd, e_nck, e_pkt, e_pkf, e_gdtt, e_gdtf, e_gdft, e_gdff, e_ift, e_iff, e_not, e_ln, e_lnT, e_cp, e_cvi, e_ex20, e_ex21, e_ex30, e_ex31, e_ex32, e_add, e_sub, e_mul, e_quo, e_rem, e_and, e_or, e_xor, e_shl, e_shr, e_eql, e_neq, e_lss, e_leq, e_gtr, e_geq, e_beq, e_bne, e_peq1, e_peq2, e_pne1, e_pne2, e_zeq1, e_zeq2, e_zne1, e_zne2, e_feq1, e_fne1, e_feq2, e_fne2, e_seq, e_sne, e_ta1, e_ta2, Nat.zero_add, Nat.add_zero, Bool.not_true, Bool.not_false]
        refine ld1_r r610 rfl ?_
        have h16 : ¬ 16 ≤ k := by omega
        simp only [h16, decide_false, e_fd, e_nck, e_pkt, e_pkf, e_gdtt, e_gdtf, e_gdft, e_gdff, e_ift, e_iff, e_not, e_ln, e_lnT, e_cp, e_cvi, e_ex20, e_ex21, e_ex30, e_ex31, e_ex32, e_add, e_sub, e_mul, e_quo, e_rem, e_and, e_or, e_xor, e_shl, e_shr, e_eql, e_neq, e_lss, e_leq, e_gtr, e_geq, e_beq, e_bne, e_peq1, e_peq2, e_pne1, e_pne2, e_zeq1, e_zeq2, e_zne1, e_zne2, e_feq1, e_fne1, e_feq2, e_fne2, e_seq, e_sne, e_ta1, e_ta2, Nat.zero_add, Nat.add_zero, Bool.not_true, Bool.not_false]
        refine ldn_r r10 (show 0 + 5 ≤ 5 by decide) ?_
        refine ldn_r r610 (show 0 + 5 ≤ 5 by decide) ?_
        refine neq70 ?_
        try simp only [e_fd, e_nck, e_pkt, e_pkf, e_gdtt, e_gdtf, e_gdft, e_gdff, e_ift, e_iff, e_not, e_ln, e_lnT, e_cp, e_cvi, e_ex20, e_ex21, e_ex30, e_ex31, e_ex32, e_add, e_sub, e_mul, e_quo, e_rem, e_and, e_or, e_xor, e_shl, e_shr, e_eql, e_neq, e_lss, e_leq, e_gtr, e_geq, e_beq, e_bne, e_peq1, e_peq2, e_pne1, e_pne2, e_zeq1, e_zeq2, e_zne1, e_zne2, e_feq1, e_fne1, e_feq2, e_fne2, e_seq, e_sne, e_ta1, e_ta2, Nat.zero_add, Nat.add_zero, Bool.not_true, Bool.not_false]
        exact next w10 k10
    · have hlt' : ¬ (i : Int) < (xs.length : Int) := by omega
      simp only [hlt', decide_false, e_fd, e_nck, e_pkt, e_pkf, e_gdtt, e_gdtf, e_gdft, e_gdff, e_ift, e_iff, e_not, e_ln, e_lnT, e_cp, e_cvi, e_ex20, e_ex21, e_ex30, e_ex31, e_ex32, e_add, e_sub, e_mul, e_quo, e_rem, e_and, e_or, e_xor, e_shl, e_shr, e_eql, e_neq, e_lss, e_leq, e_gtr, e_geq, e_beq, e_bne, e_peq1, e_peq2, e_pne1, e_pne2, e_zeq1, e_zeq2, e_zne1, e_zne2, e_feq1, e_fne1, e_feq2, e_fne2, e_seq, e_sne, e_ta1, e_ta2, Nat.zero_add, Nat.add_zero, Bool.not_true, Bool.not_false]
      unfold s8_p1
      exact ⟨rfl, hb2⟩

theorem law8_walk {W : World} {F : Nat} {v : Value} {xs : List Rc} {a0 : Addr} (hs : Scr W F v xs) (hg : W.cell? ⟨0, 0, none⟩ = some (.iface 174 (.pointer (some a0)))) : Calls Tryd.prog 8 #[v] W fun e w' => e = .returned (.bool true) ∧ Below W.heap.size W w' :=
  Calls.mono (law8 hs hg) fun e w' ⟨r, he, hr, hb⟩ => ⟨by rw [he, hr], hb⟩
end Go.Proofs.Qxb6500894aDoor
