import Derived.Test.Qxb6500899aFmtH4
import Derived.Test.Qxb6500899aFmtShApp2
namespace Go.Proofs.Qxb6500899aFmt
open Go.Sh Go.RowKit
set_option linter.unusedVariables false
set_option linter.unusedSimpArgs false

def u1 (x : Int) : List Value := [U8 x]
def stats (r : Int) : List Value := [U64 r, U64 0, U64 0, U64 0, U64 0, U64 0, U64 0, U64 0, U64 0, U64 0]
/-- the device in memory -/
structure Dk (w : World) (db mb cb mm cm : Nat) (s n c : Nat) (r : Int) (ch sh mk : Int) (tk : Value) : Prop where
  row : Row w db 57 ([U32 (s : Nat), U64 (n : Nat), U32 (c : Nat), I (s : Nat), P mb 0, P cb 0, .bool true, .bool false, U64 0, nilS] ++ stats r)
  med : Row w mb 75 [I (s : Nat), I ch, U64 sh, U64 mk, .map (some mm), tk]
  cch : Row w cb 80 [I (s : Nat), I (c : Nat), nilS, U64 0, U64 0, .map (some cm), nilS]
  mapm : MapAt w mm .u64 []
  mapc : MapAt w cm .u64 []
  sh0 : 0 ≤ sh
section
variable {w w' w1 : World} {K : Value → World → Prop} {s n c : Nat} {db mb cb mm cm : Nat} {r ch sh mk : Int} {tk : Value}
theorem Dk.kp {S : Nat → Prop} (h : Dk w db mb cb mm cm s n c r ch sh mk tk) (hk : Kp S w w') (h1 : ¬ S db) (h2 : ¬ S mb) (h3 : ¬ S cb) (h4 : ¬ S mm) (h5 : ¬ S cm) : Dk w' db mb cb mm cm s n c r ch sh mk tk :=
  ⟨hk.row h.row h1, hk.row h.med h2, hk.row h.cch h3, h.mapm.kp hk h4, h.mapc.kp hk h5, h.sh0⟩
theorem Dk.kp' (h : Dk w db mb cb mm cm s n c r ch sh mk tk) (hk : Kp (fun _ => False) w w') : Dk w' db mb cb mm cm s n c r ch sh mk tk := h.kp hk (fun q => q) (fun q => q) (fun q => q) (fun q => q) (fun q => q)
theorem newMedia_ok (h0 : 16 ≤ s) (h1 : s ≤ 65536) (hK : ∀ w' mb mm ch sh mk tk, Kp (fun _ => False) w w' → w.heap.size ≤ mb → w.heap.size ≤ mm → 0 ≤ sh → Row w' mb 75 [I (s : Nat), I ch, U64 sh, U64 mk, .map (some mm), tk] → MapAt w' mm .u64 [] → K (P mb 0) w') : cl Tryf.prog 14 #[I (s : Nat)] K w := by
  apply c14
  unfold s14_p4
  refine mk_map (q := .u64) fun w1 m1 hk1 hz1 => ?_
  refine nw_r fun w2 r2 hk2 hz2 => ?_
  refine bdq_r (l := [I (s : Nat), I (s : Nat), U64 0, U64 0, .map (some w.heap.size), P w1.heap.size 0]) rfl ?_
  refine nw_r fun w3 r3 hk3 hz3 => ?_
  replace r3 : Row w3 w2.heap.size 75 [I (s : Nat), I (s : Nat), U64 0, U64 0, .map (some w.heap.size), P w1.heap.size 0] := r3
  have m3 := (m1.kp hk2 (fun q => q)).kp hk3 (fun q => q)
  unfold s14_p3
  obtain ⟨N, hN⟩ : ∃ N : Nat, N = 4096 := ⟨_, rfl⟩
  refine ⟨fun f l w' => ∃ (a : Nat) (sh : Int), f = N - a ∧ l = [P w2.heap.size 0] ∧ 16 ≤ a ∧ a ≤ 131072 ∧ 0 ≤ sh ∧ Kp (fun _ => False) w w' ∧ Row w' w2.heap.size 75 [I (s : Nat), I (a : Nat), U64 sh, U64 0, .map (some w.heap.size), P w1.heap.size 0] ∧ MapAt w' w.heap.size .u64 [],
    N - s, ⟨s, 0, rfl, rfl, h0, by omega, by omega, (hk1.trans hk2).trans hk3, r3, m3⟩, ?_⟩
  rintro f l w4 ⟨a, sh, rfl, rfl, ha0, ha1, hsh, hk4, r4, m4⟩
  rw [s14_p3_Fe]
  unfold s14_p2
  try simp only [e_fd, e_nck, e_pkt, e_pkf, e_gdtt, e_gdtf, e_gdft, e_gdff, e_ift, e_iff, e_not, e_ln, e_lnT, e_cp, e_cvi, e_ex20, e_ex21, e_ex30, e_ex31, e_ex32, e_add, e_sub, e_mul, e_quo, e_rem, e_and, e_or, e_xor, e_shl, e_shr, e_eql, e_neq, e_lss, e_leq, e_gtr, e_geq, e_beq, e_bne, e_peq1, e_peq2, e_pne1, e_pne2, e_zeq1, e_zeq2, e_zne1, e_zne2, e_feq1, e_fne1, e_feq2, e_fne2, e_seq, e_sne, e_ta1, e_ta2, Nat.zero_add, Nat.add_zero, Bool.not_true, Bool.not_false]
  refine ld1_r r4 rfl ?_
  try simp only [e_fd, e_nck, e_pkt, e_pkf, e_gdtt, e_gdtf, e_gdft, e_gdff, e_ift, e_iff, e_not, e_ln, e_lnT, e_cp, e_cvi, e_ex20, e_ex21, e_ex30, e_ex31, e_ex32, e_add, e_sub, e_mul, e_quo, e_rem, e_and, e_or, e_xor, e_shl, e_shr, e_eql, e_neq, e_lss, e_leq, e_gtr, e_geq, e_beq, e_bne, e_peq1, e_peq2, e_pne1, e_pne2, e_zeq1, e_zeq2, e_zne1, e_zne2, e_feq1, e_fne1, e_feq2, e_fne2, e_seq, e_sne, e_ta1, e_ta2, Nat.zero_add, Nat.add_zero, Bool.not_true, Bool.not_false]
  have hne : w2.heap.size ≠ w.heap.size := by omega
  generalize hd : decide (((a : Nat) : Int) < 4096) = d
  cases d with
  | true =>
    have hlt : a < 4096 := by have := of_decide_eq_true hd; omega
    try simp only [e_fd, e_nck, e_pkt, e_pkf, e_gdtt, e_gdtf, e_gdft, e_gdff, e_ift, e_iff, e_not, e_ln, e_lnT, e_cp, e_cvi, e_ex20, e_ex21, e_ex30, e_ex31, e_ex32, e_add, e_sub, e_mul, e_quo, e_rem, e_and, e_or, e_xor, e_shl, e_shr, e_eql, e_neq, e_lss, e_leq, e_gtr, e_geq, e_beq, e_bne, e_peq1, e_peq2, e_pne1, e_pne2, e_zeq1, e_zeq2, e_zne1, e_zne2, e_feq1, e_fne1, e_feq2, e_fne2, e_seq, e_sne, e_ta1, e_ta2, Nat.zero_add, Nat.add_zero, Bool.not_true, Bool.not_false]
    refine ld1_r r4 rfl ?_
    try simp only [e_fd, e_nck, e_pkt, e_pkf, e_gdtt, e_gdtf, e_gdft, e_gdff, e_ift, e_iff, e_not, e_ln, e_lnT, e_cp, e_cvi, e_ex20, e_ex21, e_ex30, e_ex31, e_ex32, e_add, e_sub, e_mul, e_quo, e_rem, e_and, e_or, e_xor, e_shl, e_shr, e_eql, e_neq, e_lss, e_leq, e_gtr, e_geq, e_beq, e_bne, e_peq1, e_peq2, e_pne1, e_pne2, e_zeq1, e_zeq2, e_zne1, e_zne2, e_feq1, e_fne1, e_feq2, e_fne2, e_seq, e_sne, e_ta1, e_ta2, Nat.zero_add, Nat.add_zero, Bool.not_true, Bool.not_false]
    rw [wrap64_id (by omega) (by omega), show ((a : Nat) : Int) * 2 = ((2 * a : Nat) : Int) by omega]
    refine st1_r r4 (show 1 < 6 by decide) rfl fun w5 r5 hk5 hz5 => ?_
    try simp only [e_fd, e_nck, e_pkt, e_pkf, e_gdtt, e_gdtf, e_gdft, e_gdff, e_ift, e_iff, e_not, e_ln, e_lnT, e_cp, e_cvi, e_ex20, e_ex21, e_ex30, e_ex31, e_ex32, e_add, e_sub, e_mul, e_quo, e_rem, e_and, e_or, e_xor, e_shl, e_shr, e_eql, e_neq, e_lss, e_leq, e_gtr, e_geq, e_beq, e_bne, e_peq1, e_peq2, e_pne1, e_pne2, e_zeq1, e_zeq2, e_zne1, e_zne2, e_feq1, e_fne1, e_feq2, e_fne2, e_seq, e_sne, e_ta1, e_ta2, Nat.zero_add, Nat.add_zero, Bool.not_true, Bool.not_false]
    refine ld1_r r5 rfl ?_
    try simp only [e_fd, e_nck, e_pkt, e_pkf, e_gdtt, e_gdtf, e_gdft, e_gdff, e_ift, e_iff, e_not, e_ln, e_lnT, e_cp, e_cvi, e_ex20, e_ex21, e_ex30, e_ex31, e_ex32, e_add, e_sub, e_mul, e_quo, e_rem, e_and, e_or, e_xor, e_shl, e_shr, e_eql, e_neq, e_lss, e_leq, e_gtr, e_geq, e_beq, e_bne, e_peq1, e_peq2, e_pne1, e_pne2, e_zeq1, e_zeq2, e_zne1, e_zne2, e_feq1, e_fne1, e_feq2, e_fne2, e_seq, e_sne, e_ta1, e_ta2, Nat.zero_add, Nat.add_zero, Bool.not_true, Bool.not_false]
    rw [wrapu64]
    refine st1_r r5 (show 2 < 6 by decide) rfl fun w6 r6 hk6 hz6 => ?_
    have k6 : Kp (fun k => k = w2.heap.size) w4 w6 := hk5.trans hk6
    refine ⟨N - 2 * a, by omega, 2 * a, (sh + 1) % 18446744073709551616, rfl, by simp, by omega, by omega, by omega, hk4.then k6 (fun k hk (q : k = _) => by omega), r6, m4.kp k6 (fun (q : _ = _) => hne q.symm)⟩
  | false =>
    have hlt : ¬ a < 4096 := by have := of_decide_eq_false hd; omega
    try simp only [e_fd, e_nck, e_pkt, e_pkf, e_gdtt, e_gdtf, e_gdft, e_gdff, e_ift, e_iff, e_not, e_ln, e_lnT, e_cp, e_cvi, e_ex20, e_ex21, e_ex30, e_ex31, e_ex32, e_add, e_sub, e_mul, e_quo, e_rem, e_and, e_or, e_xor, e_shl, e_shr, e_eql, e_neq, e_lss, e_leq, e_gtr, e_geq, e_beq, e_bne, e_peq1, e_peq2, e_pne1, e_pne2, e_zeq1, e_zeq2, e_zne1, e_zne2, e_feq1, e_fne1, e_feq2, e_fne2, e_seq, e_sne, e_ta1, e_ta2, Nat.zero_add, Nat.add_zero, Bool.not_true, Bool.not_false]
    unfold s14_p1
    try simp only [e_fd, e_nck, e_pkt, e_pkf, e_gdtt, e_gdtf, e_gdft, e_gdff, e_ift, e_iff, e_not, e_ln, e_lnT, e_cp, e_cvi, e_ex20, e_ex21, e_ex30, e_ex31, e_ex32, e_add, e_sub, e_mul, e_quo, e_rem, e_and, e_or, e_xor, e_shl, e_shr, e_eql, e_neq, e_lss, e_leq, e_gtr, e_geq, e_beq, e_bne, e_peq1, e_peq2, e_pne1, e_pne2, e_zeq1, e_zeq2, e_zne1, e_zne2, e_feq1, e_fne1, e_feq2, e_fne2, e_seq, e_sne, e_ta1, e_ta2, Nat.zero_add, Nat.add_zero, Bool.not_true, Bool.not_false]
    refine ld1_r r4 rfl ?_
    try simp only [e_fd, e_nck, e_pkt, e_pkf, e_gdtt, e_gdtf, e_gdft, e_gdff, e_ift, e_iff, e_not, e_ln, e_lnT, e_cp, e_cvi, e_ex20, e_ex21, e_ex30, e_ex31, e_ex32, e_add, e_sub, e_mul, e_quo, e_rem, e_and, e_or, e_xor, e_shl, e_shr, e_eql, e_neq, e_lss, e_leq, e_gtr, e_geq, e_beq, e_bne, e_peq1, e_peq2, e_pne1, e_pne2, e_zeq1, e_zeq2, e_zne1, e_zne2, e_feq1, e_fne1, e_feq2, e_fne2, e_seq, e_sne, e_ta1, e_ta2, Nat.zero_add, Nat.add_zero, Bool.not_true, Bool.not_false]
    refine ⟨hsh, ?_⟩
    try simp only [e_fd, e_nck, e_pkt, e_pkf, e_gdtt, e_gdtf, e_gdft, e_gdff, e_ift, e_iff, e_not, e_ln, e_lnT, e_cp, e_cvi, e_ex20, e_ex21, e_ex30, e_ex31, e_ex32, e_add, e_sub, e_mul, e_quo, e_rem, e_and, e_or, e_xor, e_shl, e_shr, e_eql, e_neq, e_lss, e_leq, e_gtr, e_geq, e_beq, e_bne, e_peq1, e_peq2, e_pne1, e_pne2, e_zeq1, e_zeq2, e_zne1, e_zne2, e_feq1, e_fne1, e_feq2, e_fne2, e_seq, e_sne, e_ta1, e_ta2, Nat.zero_add, Nat.add_zero, Bool.not_true, Bool.not_false]
    refine st1_r r4 (show 3 < 6 by decide) rfl fun w5 r5 hk5 hz5 => ?_
    exact hK w5 w2.heap.size w.heap.size _ sh _ _ (hk4.then hk5 (fun k hk (q : k = _) => by omega)) (by omega) (Nat.le_refl _) hsh r5 (m4.kp hk5 (fun (q : _ = _) => hne q.symm))
theorem newCache_ok (hK : ∀ w' cb cm, Kp (fun _ => False) w w' → w.heap.size ≤ cb → w.heap.size ≤ cm → Row w' cb 80 [I (s : Nat), I (c : Nat), nilS, U64 0, U64 0, .map (some cm), nilS] → MapAt w' cm .u64 [] → K (P cb 0) w') : cl Tryf.prog 15 #[I (s : Nat), I (c : Nat)] K w := by
  apply c15
  unfold s15_p1
  refine mk_map (q := .u64) fun w1 m1 hk1 hz1 => ?_
  refine bdq_r (l := [I (s : Nat), I (c : Nat), nilS, U64 0, U64 0, .map (some w.heap.size), nilS]) rfl ?_
  refine nw_r fun w2 r2 hk2 hz2 => ?_
  exact hK w2 w1.heap.size w.heap.size (hk1.trans hk2) (by omega) (Nat.le_refl _) r2 (m1.kp hk2 (fun q => q))
theorem new_ok (hs : s < 4294967296) (hn : n < 18446744073709551616) (hc : c < 4294967296)
    (hg : good s n c → ∀ w' db mb cb mm cm ch sh mk tk, Kp (fun _ => False) w w' → Dk w' db mb cb mm cm s n c 0 ch sh mk tk → w.heap.size ≤ db → w.heap.size ≤ mb → w.heap.size ≤ cb → w.heap.size ≤ mm → w.heap.size ≤ cm → K (.tuple #[P db 0, .nilIface]) w')
    (hb : ¬ good s n c → ∀ w' v, Kp (fun _ => False) w w' → GErr w' v → K (.tuple #[.pointer none, v]) w') : cl Tryf.prog 5 #[.agg #[U32 (s : Nat), U64 (n : Nat), U32 (c : Nat)]] K w := by
  apply c5
  unfold s5_p3
  refine nw_r fun w1 r1 hk1 hz1 => ?_
  replace r1 : Row w1 w.heap.size 29 [U32 (s : Nat), U64 (n : Nat), U32 (c : Nat)] := r1
  refine ldn_r r1 (show 0 + 3 ≤ 3 by decide) ?_
  refine check_ok hs hn hc (fun hgd w2 hk2 => ?_) (fun hbd w2 v hk2 he => ?_)
  · simp only [e_fd, e_nck, e_pkt, e_pkf, e_gdtt, e_gdtf, e_gdft, e_gdff, e_ift, e_iff, e_not, e_ln, e_lnT, e_cp, e_cvi, e_ex20, e_ex21, e_ex30, e_ex31, e_ex32, e_add, e_sub, e_mul, e_quo, e_rem, e_and, e_or, e_xor, e_shl, e_shr, e_eql, e_neq, e_lss, e_leq, e_gtr, e_geq, e_beq, e_bne, e_peq1, e_peq2, e_pne1, e_pne2, e_zeq1, e_zeq2, e_zne1, e_zne2, e_feq1, e_fne1, e_feq2, e_fne2, e_seq, e_sne, e_ta1, e_ta2, Nat.zero_add, Nat.add_zero, Bool.not_true, Bool.not_false]
    have r2 := hk2.row' r1
    have k2 := hk1.trans hk2
    obtain ⟨⟨h16, h65⟩, _, _, hc1, hc2⟩ := id hgd
    refine ld1_r r2 rfl ?_
    try simp only [e_fd, e_nck, e_pkt, e_pkf, e_gdtt, e_gdtf, e_gdft, e_gdff, e_ift, e_iff, e_not, e_ln, e_lnT, e_cp, e_cvi, e_ex20, e_ex21, e_ex30, e_ex31, e_ex32, e_add, e_sub, e_mul, e_quo, e_rem, e_and, e_or, e_xor, e_shl, e_shr, e_eql, e_neq, e_lss, e_leq, e_gtr, e_geq, e_beq, e_bne, e_peq1, e_peq2, e_pne1, e_pne2, e_zeq1, e_zeq2, e_zne1, e_zne2, e_feq1, e_fne1, e_feq2, e_fne2, e_seq, e_sne, e_ta1, e_ta2, Nat.zero_add, Nat.add_zero, Bool.not_true, Bool.not_false]
    rw [wrap64_id (by omega) (by omega)]
    unfold s5_p2 s5_p2_d
    have kd : Kp (fun _ => False) w2 (drw w2) := kp_drw
    generalize drw w2 = w3 at kd ⊢
    have r3 := kd.row' r2
    have k3 := k2.trans kd
    refine ldn_r r3 (show 0 + 3 ≤ 3 by decide) ?_
    try simp only [e_fd, e_nck, e_pkt, e_pkf, e_gdtt, e_gdtf, e_gdft, e_gdff, e_ift, e_iff, e_not, e_ln, e_lnT, e_cp, e_cvi, e_ex20, e_ex21, e_ex30, e_ex31, e_ex32, e_add, e_sub, e_mul, e_quo, e_rem, e_and, e_or, e_xor, e_shl, e_shr, e_eql, e_neq, e_lss, e_leq, e_gtr, e_geq, e_beq, e_bne, e_peq1, e_peq2, e_pne1, e_pne2, e_zeq1, e_zeq2, e_zne1, e_zne2, e_feq1, e_fne1, e_feq2, e_fne2, e_seq, e_sne, e_ta1, e_ta2, Nat.zero_add, Nat.add_zero, Bool.not_true, Bool.not_false]
    refine ld1_r r3 rfl ?_
    try simp only [e_fd, e_nck, e_pkt, e_pkf, e_gdtt, e_gdtf, e_gdft, e_gdff, e_ift, e_iff, e_not, e_ln, e_lnT, e_cp, e_cvi, e_ex20, e_ex21, e_ex30, e_ex31, e_ex32, e_add, e_sub, e_mul, e_quo, e_rem, e_and, e_or, e_xor, e_shl, e_shr, e_eql, e_neq, e_lss, e_leq, e_gtr, e_geq, e_beq, e_bne, e_peq1, e_peq2, e_pne1, e_pne2, e_zeq1, e_zeq2, e_zne1, e_zne2, e_feq1, e_fne1, e_feq2, e_fne2, e_seq, e_sne, e_ta1, e_ta2, Nat.zero_add, Nat.add_zero, Bool.not_true, Bool.not_false]
    rw [wrap64_id (by omega) (by omega)]
    refine newMedia_ok h16 h65 fun w4 mb mm ch sh mk tk hk4 hmb hmm hsh r4 m4 => ⟨hk4.below', ?_⟩
    refine newCache_ok fun w5 cb cm hk5 hcb hcm r5 m5 => ⟨(hk4.trans hk5).below', ?_⟩
    refine bdq_r (l := [U32 (s : Nat), U64 (n : Nat), U32 (c : Nat), I (s : Nat), P mb 0, P cb 0, .bool true, .bool false, U64 0, nilS] ++ stats 0) rfl ?_
    refine nw_r fun w6 r6 hk6 hz6 => ?_
    unfold s5_p1
    have sz := k3.size
    have sz4 := hk4.size
    have sz5 := hk5.size
    exact hg hgd w6 w5.heap.size mb cb mm cm ch sh mk tk (((k3.trans hk4).trans hk5).trans hk6) ⟨r6, hk6.row' (hk5.row' r4), hk6.row' r5, (m4.kp hk5 (fun q => q)).kp hk6 (fun q => q), m5.kp hk6 (fun q => q), hsh⟩ (by omega) (by omega) (by omega) (by omega) (by omega)
  · obtain ⟨b, str, rfl, r⟩ := he
    try simp only [e_fd, e_nck, e_pkt, e_pkf, e_gdtt, e_gdtf, e_gdft, e_gdff, e_ift, e_iff, e_not, e_ln, e_lnT, e_cp, e_cvi, e_ex20, e_ex21, e_ex30, e_ex31, e_ex32, e_add, e_sub, e_mul, e_quo, e_rem, e_and, e_or, e_xor, e_shl, e_shr, e_eql, e_neq, e_lss, e_leq, e_gtr, e_geq, e_beq, e_bne, e_peq1, e_peq2, e_pne1, e_pne2, e_zeq1, e_zeq2, e_zne1, e_zne2, e_feq1, e_fne1, e_feq2, e_fne2, e_seq, e_sne, e_ta1, e_ta2, Nat.zero_add, Nat.add_zero, Bool.not_true, Bool.not_false]
    exact hb hbd w2 _ (hk1.trans hk2) ⟨b, str, rfl, r⟩
theorem geometry_ok (h : Dk w db mb cb mm cm s n c r ch sh mk tk) (hK : ∀ w', Kp (fun _ => False) w w' → K (.agg #[U32 (s : Nat), U64 (n : Nat), U32 (c : Nat)]) w') : cl Tryf.prog 7 #[P db 0] K w := by
  apply c7
  unfold s7_p1
  refine nw_r fun w1 r1 hk1 hz1 => ?_
  try simp only [e_fd, e_nck, e_pkt, e_pkf, e_gdtt, e_gdtf, e_gdft, e_gdff, e_ift, e_iff, e_not, e_ln, e_lnT, e_cp, e_cvi, e_ex20, e_ex21, e_ex30, e_ex31, e_ex32, e_add, e_sub, e_mul, e_quo, e_rem, e_and, e_or, e_xor, e_shl, e_shr, e_eql, e_neq, e_lss, e_leq, e_gtr, e_geq, e_beq, e_bne, e_peq1, e_peq2, e_pne1, e_pne2, e_zeq1, e_zeq2, e_zne1, e_zne2, e_feq1, e_fne1, e_feq2, e_fne2, e_seq, e_sne, e_ta1, e_ta2, Nat.zero_add, Nat.add_zero, Bool.not_true, Bool.not_false]
  have h1 := h.kp' hk1
  refine ldn_r h1.row (show 0 + 3 ≤ 20 by decide) ?_
  refine stn_r (cs := [U32 (s : Nat), U64 (n : Nat), U32 (c : Nat)]) r1 rfl (show 0 + 3 ≤ 3 by decide) rfl fun w2 r2 hk2 hz2 => ?_
  refine ldn_r r2 (show 0 + 3 ≤ _ by simp) ?_
  exact hK w2 (hk1.then hk2 (fun k hk (q : k = _) => by omega))
theorem powered_ok (h : Dk w db mb cb mm cm s n c r ch sh mk tk) (hK : K (.bool true) w) : cl Tryf.prog 8 #[P db 0] K w := by
  apply c8
  unfold s8_p1
  try simp only [e_fd, e_nck, e_pkt, e_pkf, e_gdtt, e_gdtf, e_gdft, e_gdff, e_ift, e_iff, e_not, e_ln, e_lnT, e_cp, e_cvi, e_ex20, e_ex21, e_ex30, e_ex31, e_ex32, e_add, e_sub, e_mul, e_quo, e_rem, e_and, e_or, e_xor, e_shl, e_shr, e_eql, e_neq, e_lss, e_leq, e_gtr, e_geq, e_beq, e_bne, e_peq1, e_peq2, e_pne1, e_pne2, e_zeq1, e_zeq2, e_zne1, e_zne2, e_feq1, e_fne1, e_feq2, e_fne2, e_seq, e_sne, e_ta1, e_ta2, Nat.zero_add, Nat.add_zero, Bool.not_true, Bool.not_false]
  exact ld1_r h.row rfl hK
theorem len_ok (h : Dk w db mb cb mm cm s n c r ch sh mk tk) (hK : ∀ w', Kp (fun _ => False) w w' → K (I 0) w') : cl Tryf.prog 17 #[P cb 0] K w := by
  apply c17
  unfold s17_p3 s17_p2 s17_p2_d
  have kd : Kp (fun _ => False) w (drw w) := kp_drw
  generalize drw w = w1 at kd ⊢
  have h1 := h.kp' kd
  try simp only [e_fd, e_nck, e_pkt, e_pkf, e_gdtt, e_gdtf, e_gdft, e_gdff, e_ift, e_iff, e_not, e_ln, e_lnT, e_cp, e_cvi, e_ex20, e_ex21, e_ex30, e_ex31, e_ex32, e_add, e_sub, e_mul, e_quo, e_rem, e_and, e_or, e_xor, e_shl, e_shr, e_eql, e_neq, e_lss, e_leq, e_gtr, e_geq, e_beq, e_bne, e_peq1, e_peq2, e_pne1, e_pne2, e_zeq1, e_zeq2, e_zne1, e_zne2, e_feq1, e_fne1, e_feq2, e_fne2, e_seq, e_sne, e_ta1, e_ta2, Nat.zero_add, Nat.add_zero, Bool.not_true, Bool.not_false]
  refine ld1_r h1.cch rfl ?_
  try simp only [e_fd, e_nck, e_pkt, e_pkf, e_gdtt, e_gdtf, e_gdft, e_gdff, e_ift, e_iff, e_not, e_ln, e_lnT, e_cp, e_cvi, e_ex20, e_ex21, e_ex30, e_ex31, e_ex32, e_add, e_sub, e_mul, e_quo, e_rem, e_and, e_or, e_xor, e_shl, e_shr, e_eql, e_neq, e_lss, e_leq, e_gtr, e_geq, e_beq, e_bne, e_peq1, e_peq2, e_pne1, e_pne2, e_zeq1, e_zeq2, e_zne1, e_zne2, e_feq1, e_fne1, e_feq2, e_fne2, e_seq, e_sne, e_ta1, e_ta2, Nat.zero_add, Nat.add_zero, Bool.not_true, Bool.not_false]
  refine ld1_r h1.cch rfl ?_
  try simp only [e_fd, e_nck, e_pkt, e_pkf, e_gdtt, e_gdtf, e_gdft, e_gdff, e_ift, e_iff, e_not, e_ln, e_lnT, e_cp, e_cvi, e_ex20, e_ex21, e_ex30, e_ex31, e_ex32, e_add, e_sub, e_mul, e_quo, e_rem, e_and, e_or, e_xor, e_shl, e_shr, e_eql, e_neq, e_lss, e_leq, e_gtr, e_geq, e_beq, e_bne, e_peq1, e_peq2, e_pne1, e_pne2, e_zeq1, e_zeq2, e_zne1, e_zne2, e_feq1, e_fne1, e_feq2, e_fne2, e_seq, e_sne, e_ta1, e_ta2, Nat.zero_add, Nat.add_zero, Bool.not_true, Bool.not_false]
  unfold s17_p1
  exact hK w1 kd
theorem pending_ok (h : Dk w db mb cb mm cm s n c r ch sh mk tk) (hK : ∀ w', Kp (fun _ => False) w w' → K (I 0) w') : cl Tryf.prog 9 #[P db 0] K w := by
  apply c9
  unfold s9_p1
  try simp only [e_fd, e_nck, e_pkt, e_pkf, e_gdtt, e_gdtf, e_gdft, e_gdff, e_ift, e_iff, e_not, e_ln, e_lnT, e_cp, e_cvi, e_ex20, e_ex21, e_ex30, e_ex31, e_ex32, e_add, e_sub, e_mul, e_quo, e_rem, e_and, e_or, e_xor, e_shl, e_shr, e_eql, e_neq, e_lss, e_leq, e_gtr, e_geq, e_beq, e_bne, e_peq1, e_peq2, e_pne1, e_pne2, e_zeq1, e_zeq2, e_zne1, e_zne2, e_feq1, e_fne1, e_feq2, e_fne2, e_seq, e_sne, e_ta1, e_ta2, Nat.zero_add, Nat.add_zero, Bool.not_true, Bool.not_false]
  refine ld1_r h.row rfl ?_
  exact len_ok h hK
theorem fuse_ok (h : Dk w db mb cb mm cm s n c r ch sh mk tk) (hK : ∀ w' k, Kp (fun _ => False) w w' → K (.tuple #[.bool false, U64 0, k]) w') : cl Tryf.prog 10 #[P db 0] K w := by
  apply c10
  unfold s10_p3 s10_p2 s10_p2_d
  have kd : Kp (fun _ => False) w (drw w) := kp_drw
  generalize drw w = w1 at kd ⊢
  have h1 := h.kp' kd
  try simp only [e_fd, e_nck, e_pkt, e_pkf, e_gdtt, e_gdtf, e_gdft, e_gdff, e_ift, e_iff, e_not, e_ln, e_lnT, e_cp, e_cvi, e_ex20, e_ex21, e_ex30, e_ex31, e_ex32, e_add, e_sub, e_mul, e_quo, e_rem, e_and, e_or, e_xor, e_shl, e_shr, e_eql, e_neq, e_lss, e_leq, e_gtr, e_geq, e_beq, e_bne, e_peq1, e_peq2, e_pne1, e_pne2, e_zeq1, e_zeq2, e_zne1, e_zne2, e_feq1, e_fne1, e_feq2, e_fne2, e_seq, e_sne, e_ta1, e_ta2, Nat.zero_add, Nat.add_zero, Bool.not_true, Bool.not_false]
  refine ld1_r h1.row rfl ?_
  try simp only [e_fd, e_nck, e_pkt, e_pkf, e_gdtt, e_gdtf, e_gdft, e_gdff, e_ift, e_iff, e_not, e_ln, e_lnT, e_cp, e_cvi, e_ex20, e_ex21, e_ex30, e_ex31, e_ex32, e_add, e_sub, e_mul, e_quo, e_rem, e_and, e_or, e_xor, e_shl, e_shr, e_eql, e_neq, e_lss, e_leq, e_gtr, e_geq, e_beq, e_bne, e_peq1, e_peq2, e_pne1, e_pne2, e_zeq1, e_zeq2, e_zne1, e_zne2, e_feq1, e_fne1, e_feq2, e_fne2, e_seq, e_sne, e_ta1, e_ta2, Nat.zero_add, Nat.add_zero, Bool.not_true, Bool.not_false]
  refine ld1_r h1.row rfl ?_
  try simp only [e_fd, e_nck, e_pkt, e_pkf, e_gdtt, e_gdtf, e_gdft, e_gdff, e_ift, e_iff, e_not, e_ln, e_lnT, e_cp, e_cvi, e_ex20, e_ex21, e_ex30, e_ex31, e_ex32, e_add, e_sub, e_mul, e_quo, e_rem, e_and, e_or, e_xor, e_shl, e_shr, e_eql, e_neq, e_lss, e_leq, e_gtr, e_geq, e_beq, e_bne, e_peq1, e_peq2, e_pne1, e_pne2, e_zeq1, e_zeq2, e_zne1, e_zne2, e_feq1, e_fne1, e_feq2, e_fne2, e_seq, e_sne, e_ta1, e_ta2, Nat.zero_add, Nat.add_zero, Bool.not_true, Bool.not_false]
  refine ld1_r h1.row rfl ?_
  try simp only [e_fd, e_nck, e_pkt, e_pkf, e_gdtt, e_gdtf, e_gdft, e_gdff, e_ift, e_iff, e_not, e_ln, e_lnT, e_cp, e_cvi, e_ex20, e_ex21, e_ex30, e_ex31, e_ex32, e_add, e_sub, e_mul, e_quo, e_rem, e_and, e_or, e_xor, e_shl, e_shr, e_eql, e_neq, e_lss, e_leq, e_gtr, e_geq, e_beq, e_bne, e_peq1, e_peq2, e_pne1, e_pne2, e_zeq1, e_zeq2, e_zne1, e_zne2, e_feq1, e_fne1, e_feq2, e_fne2, e_seq, e_sne, e_ta1, e_ta2, Nat.zero_add, Nat.add_zero, Bool.not_true, Bool.not_false]
  refine Sl.app2 (f := u1) (k := 1) (e := 5) (ob := none) (ob2 := none) (xs := []) (ys := []) (fun _ => rfl) rfl (fun _ _ => rfl) ⟨rfl, rfl⟩ ⟨rfl, rfl⟩ (by simp) (by simp) fun w3 t3 ob3 s3 hk3 ho3 => ?_
  have hk3' : Kp (fun _ => False) w1 w3 := hk3.mono fun _ _ q => by cases q
  refine ⟨hk3'.below', ?_⟩
  unfold s10_p1
  exact hK w3 t3 (kd.trans hk3')
theorem whole_ok (h : Dk w db mb cb mm cm s n c r ch sh mk tk) (hK : ∀ w', Kp (fun _ => False) w w' → K (.agg #[U64 0, U64 (n : Nat)]) w') : cl Tryf.prog 19 #[P db 0] K w := by
  apply c19
  unfold s19_p1
  refine nw_r fun w1 r1 hk1 hz1 => ?_
  try simp only [e_fd, e_nck, e_pkt, e_pkf, e_gdtt, e_gdtf, e_gdft, e_gdff, e_ift, e_iff, e_not, e_ln, e_lnT, e_cp, e_cvi, e_ex20, e_ex21, e_ex30, e_ex31, e_ex32, e_add, e_sub, e_mul, e_quo, e_rem, e_and, e_or, e_xor, e_shl, e_shr, e_eql, e_neq, e_lss, e_leq, e_gtr, e_geq, e_beq, e_bne, e_peq1, e_peq2, e_pne1, e_pne2, e_zeq1, e_zeq2, e_zne1, e_zne2, e_feq1, e_fne1, e_feq2, e_fne2, e_seq, e_sne, e_ta1, e_ta2, Nat.zero_add, Nat.add_zero, Bool.not_true, Bool.not_false]
  have h1 := h.kp' hk1
  refine ld1_r h1.row rfl ?_
  refine bdq_r (l := [U64 0, U64 (n : Nat)]) rfl ?_
  refine stn_r (cs := [U64 0, U64 (n : Nat)]) r1 rfl (show 0 + 2 ≤ 2 by decide) rfl fun w2 r2 hk2 hz2 => ?_
  refine ldn_r r2 (show 0 + 2 ≤ _ by simp) ?_
  exact hK w2 (hk1.then hk2 (fun k hk (q : k = _) => by omega))
end
end Go.Proofs.Qxb6500899aFmt
