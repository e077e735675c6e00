import Derived.Test.Qxb6500897aP37
namespace Go.Proofs.Qxb6500897a
open Go.Sh Go.RowKit
set_option linter.unusedVariables false
set_option linter.unusedSimpArgs false

/-! ### Sound -/
theorem sE_top (f : Int → Nat → Int) (v : Int) : ∀ k, sE f v (k + 1) = (f v 0 + f v 1 + f v 2) + sE f (v - 1) k := by
  intro k
  induction k with
  | zero => rw [sE, sE, sE]; have e : v - ((0 : Nat) : Int) = v := by omega
            rw [e]; omega
  | succ k ih =>
    rw [sE, ih, sE]
    have e : v - ((k + 1 : Nat) : Int) = v - 1 - (k : Nat) := by omega
    rw [e]; omega
theorem sE_bd {f : Int → Nat → Int} (hf : ∀ u c, c < 3 → 0 ≤ f u c ∧ f u c ≤ 12) (v : Int) : ∀ k, 0 ≤ sE f v k ∧ sE f v k ≤ 36 * (k : Int) := by
  intro k
  induction k with
  | zero => exact ⟨Int.le_refl 0, by rw [sE]; omega⟩
  | succ k ih =>
    have h0 := hf (v - k) 0 (by omega)
    have h1 := hf (v - k) 1 (by omega)
    have h2 := hf (v - k) 2 (by omega)
    rw [sE]
    omega
/-- the first c of three -/
def pcs (g : Nat → Int) : Nat → Int
  | 0 => 0
  | c + 1 => pcs g c + g c
theorem pcs_bd {g : Nat → Int} (hg : ∀ c, c < 3 → 0 ≤ g c ∧ g c ≤ 12) : ∀ c, c ≤ 3 → 0 ≤ pcs g c ∧ pcs g c ≤ 36
  | 0, _ => by rw [pcs]; omega
  | 1, _ => by have := hg 0 (by omega); rw [pcs, pcs]; omega
  | 2, _ => by have := hg 0 (by omega); have := hg 1 (by omega); rw [pcs, pcs, pcs]; omega
  | 3, _ => by have := hg 0 (by omega); have := hg 1 (by omega); have := hg 2 (by omega); rw [pcs, pcs, pcs, pcs]; omega

section
variable {w0 w : World} {tb o a : Nat} {now : Int} {t : Tab} {L : List Ent} {K : Value → World → Prop} {B1 : List Value → World → Prop}

theorem Ring.cell (h : Ring now L a t) {s : Int} : ps t s % t.occ.length < t.occ.length := Nat.mod_lt _ h.tok.l1
theorem Ring.nxt (h : Ring now L a t) {s : Int} (h0 : 0 ≤ s + (dw a - 1)) : (ps t s % t.occ.length + 1) % t.occ.length = ps t (s + 1) % t.occ.length := by
  have ht := h.tok
  rw [succ_mod]
  congr 1
  unfold ps
  rw [h.att]
  have hdw : (pa a).dwell = dw a := rfl
  omega

theorem snd_add {s j S : Int} (h : TabAt w tb o t) (hr : Ring now L a t) (hi : Inv now L) (s0 : fst1 now a ≤ s) (s1 : s ≤ now + 5 + (dw a - 1)) (S0 : 0 ≤ S) (S1 : S ≤ 1000) {jv : Value}
    (hK : s68_p8 K B1 (.pointer (some ⟨tb, o, none⟩)) (I now) (I (S + (ent L a s 0 + ent L a s 1 + ent L a s 2))) (I (ps t s % t.occ.length : Nat)) jv (I s) w) :
    s68_p11 K B1 (.pointer (some ⟨tb, o, none⟩)) (I now) (I S) (I (ps t s % t.occ.length : Nat)) jv (I s) w := by
  have ht := hr.tok
  have l2 := ht.l2
  have hcell := hr.cell (s := s)
  have hadl := hr.adl
  have hb := pa_bd a
  have hen : ∀ c, c < 3 → 0 ≤ ent L a s c ∧ ent L a s c ≤ 12 := fun c hc => by have := hi.en a s c hc; have := hb.2.2.2.2 c; omega
  unfold fst1 at s0
  unfold s68_p11
  refine ⟨fun m l w' => ∃ c : Nat, c ≤ 3 ∧ m = 3 - c ∧ w' = w ∧ l = [.pointer (some ⟨tb, o, none⟩), I now, I (S + pcs (ent L a s) c), I (ps t s % t.occ.length : Nat), jv, I s, I c],
    3, ⟨0, by omega, by omega, rfl, by rw [pcs, Int.add_zero]; rfl⟩, ?_⟩
  rintro m l w' ⟨c, hc, hm, rfl, rfl⟩
  rw [s68_p10_Fe]
  unfold s68_p9
  simp only [e_fd, e_nck, e_pkt, e_pkf, e_gdtt, e_gdtf, e_gdft, e_gdff, e_ift, e_iff, e_not, e_ln, e_lnT, e_cp, e_cvi, e_ex20, e_ex21, e_ex30, e_ex31, e_ex32, e_add, e_sub, e_mul, e_quo, e_rem, e_and, e_or, e_xor, e_shl, e_shr, e_eql, e_neq, e_lss, e_leq, e_gtr, e_geq, e_beq, e_bne, e_peq1, e_peq2, e_pne1, e_pne2, e_zeq1, e_zeq2, e_zne1, e_zne2, e_feq1, e_fne1, e_feq2, e_fne2, e_seq, e_sne, e_ta1, e_ta2, Nat.zero_add, Nat.add_zero, Bool.not_true, Bool.not_false]
  by_cases hlt : c < 3
  · have hlt' : (c : Int) < 3 := by omega
    simp only [hlt', decide_true, e_fd, e_nck, e_pkt, e_pkf, e_gdtt, e_gdtf, e_gdft, e_gdff, e_ift, e_iff, e_not, e_ln, e_lnT, e_cp, e_cvi, e_ex20, e_ex21, e_ex30, e_ex31, e_ex32, e_add, e_sub, e_mul, e_quo, e_rem, e_and, e_or, e_xor, e_shl, e_shr, e_eql, e_neq, e_lss, e_leq, e_gtr, e_geq, e_beq, e_bne, e_peq1, e_peq2, e_pne1, e_pne2, e_zeq1, e_zeq2, e_zne1, e_zne2, e_feq1, e_fne1, e_feq2, e_fne2, e_seq, e_sne, e_ta1, e_ta2, Nat.zero_add, Nat.add_zero, Bool.not_true, Bool.not_false]
    have hadm : t.adm.getD (ps t s % t.occ.length * 3 + c) 0 = ent L a s c := hr.adm s c s0 s1 hlt
    have hec := hen c hlt
    have hps := pcs_bd hen c hc
    generalize hm2 : ps t s % t.occ.length = x at *
    refine h.fld (j := 8) (by omega) rfl ?_
    try simp only [e_fd, e_nck, e_pkt, e_pkf, e_gdtt, e_gdtf, e_gdft, e_gdff, e_ift, e_iff, e_not, e_ln, e_lnT, e_cp, e_cvi, e_ex20, e_ex21, e_ex30, e_ex31, e_ex32, e_add, e_sub, e_mul, e_quo, e_rem, e_and, e_or, e_xor, e_shl, e_shr, e_eql, e_neq, e_lss, e_leq, e_gtr, e_geq, e_beq, e_bne, e_peq1, e_peq2, e_pne1, e_pne2, e_zeq1, e_zeq2, e_zne1, e_zne2, e_feq1, e_fne1, e_feq2, e_fne2, e_seq, e_sne, e_ta1, e_ta2, Nat.zero_add, Nat.add_zero, Bool.not_true, Bool.not_false]
    rw [wrap64_id (n := (x : Int) * 3) (by omega) (by omega), wrap64_id (n := (x : Int) * 3 + c) (by omega) (by omega)]
    have ex : ((x : Int) * 3 + c) = ((x * 3 + c : Nat) : Int) := by omega
    rw [ex]
    refine ixs1_r (by omega) ?_
    refine ldI h.adm (by omega) ?_
    rw [hadm]
    have hneg : ¬ ent L a s c < 0 := by omega
    simp only [hneg, decide_false, e_fd, e_nck, e_pkt, e_pkf, e_gdtt, e_gdtf, e_gdft, e_gdff, e_ift, e_iff, e_not, e_ln, e_lnT, e_cp, e_cvi, e_ex20, e_ex21, e_ex30, e_ex31, e_ex32, e_add, e_sub, e_mul, e_quo, e_rem, e_and, e_or, e_xor, e_shl, e_shr, e_eql, e_neq, e_lss, e_leq, e_gtr, e_geq, e_beq, e_bne, e_peq1, e_peq2, e_pne1, e_pne2, e_zeq1, e_zeq2, e_zne1, e_zne2, e_feq1, e_fne1, e_feq2, e_fne2, e_seq, e_sne, e_ta1, e_ta2, Nat.zero_add, Nat.add_zero, Bool.not_true, Bool.not_false]
    refine h.fld (j := 8) (by omega) rfl ?_
    refine ixs1_r (by omega) ?_
    refine ldI h.adm (by omega) ?_
    rw [hadm]
    simp only [e_fd, e_nck, e_pkt, e_pkf, e_gdtt, e_gdtf, e_gdft, e_gdff, e_ift, e_iff, e_not, e_ln, e_lnT, e_cp, e_cvi, e_ex20, e_ex21, e_ex30, e_ex31, e_ex32, e_add, e_sub, e_mul, e_quo, e_rem, e_and, e_or, e_xor, e_shl, e_shr, e_eql, e_neq, e_lss, e_leq, e_gtr, e_geq, e_beq, e_bne, e_peq1, e_peq2, e_pne1, e_pne2, e_zeq1, e_zeq2, e_zne1, e_zne2, e_feq1, e_fne1, e_feq2, e_fne2, e_seq, e_sne, e_ta1, e_ta2, Nat.zero_add, Nat.add_zero, Bool.not_true, Bool.not_false]
    rw [wrap64_id (n := S + pcs (ent L a s) c + ent L a s c) (by omega) (by omega), wrap64_id (by omega) (by omega)]
    refine ⟨3 - (c + 1), by omega, c + 1, by omega, rfl, trivial, ?_⟩
    rw [pcs, Int.add_assoc]
    simp
  · have hlt' : ¬ (c : Int) < 3 := by omega
    simp only [hlt', decide_false, e_fd, e_nck, e_pkt, e_pkf, e_gdtt, e_gdtf, e_gdft, e_gdff, e_ift, e_iff, e_not, e_ln, e_lnT, e_cp, e_cvi, e_ex20, e_ex21, e_ex30, e_ex31, e_ex32, e_add, e_sub, e_mul, e_quo, e_rem, e_and, e_or, e_xor, e_shl, e_shr, e_eql, e_neq, e_lss, e_leq, e_gtr, e_geq, e_beq, e_bne, e_peq1, e_peq2, e_pne1, e_pne2, e_zeq1, e_zeq2, e_zne1, e_zne2, e_feq1, e_fne1, e_feq2, e_fne2, e_seq, e_sne, e_ta1, e_ta2, Nat.zero_add, Nat.add_zero, Bool.not_true, Bool.not_false]
    have : c = 3 := by omega
    subst this
    have e : S + pcs (ent L a s) 3 = S + (ent L a s 0 + ent L a s 1 + ent L a s 2) := by rw [pcs, pcs, pcs, pcs]; omega
    rw [e]
    exact hK

theorem snd_sub {s u S : Int} (h : TabAt w tb o t) (hr : Ring now L a t) (hi : Inv now L) (s0 : fst1 now a ≤ u) (s1 : u ≤ now + 5 + (dw a - 1)) (S0 : 0 ≤ S) (S1 : S ≤ 1000) {iv_ : Value}
    (hK : s68_p3 K B1 (.pointer (some ⟨tb, o, none⟩)) (I now) (I (S - (ent L a u 0 + ent L a u 1 + ent L a u 2))) iv_ (I (ps t u % t.occ.length : Nat)) (I s) w) :
    s68_p6 K B1 (.pointer (some ⟨tb, o, none⟩)) (I now) (I S) iv_ (I (ps t u % t.occ.length : Nat)) (I s) w := by
  have ht := hr.tok
  have l2 := ht.l2
  have hcell := hr.cell (s := u)
  have hadl := hr.adl
  have hb := pa_bd a
  have hen : ∀ c, c < 3 → 0 ≤ ent L a u c ∧ ent L a u c ≤ 12 := fun c hc => by have := hi.en a u c hc; have := hb.2.2.2.2 c; omega
  unfold fst1 at s0
  unfold s68_p6
  refine ⟨fun m l w' => ∃ c : Nat, c ≤ 3 ∧ m = 3 - c ∧ w' = w ∧ l = [.pointer (some ⟨tb, o, none⟩), I now, I (S - pcs (ent L a u) c), iv_, I (ps t u % t.occ.length : Nat), I s, I c],
    3, ⟨0, by omega, by omega, rfl, by rw [pcs, Int.sub_zero]; rfl⟩, ?_⟩
  rintro m l w' ⟨c, hc, hm, rfl, rfl⟩
  rw [s68_p5_Fe]
  unfold s68_p4
  simp only [e_fd, e_nck, e_pkt, e_pkf, e_gdtt, e_gdtf, e_gdft, e_gdff, e_ift, e_iff, e_not, e_ln, e_lnT, e_cp, e_cvi, e_ex20, e_ex21, e_ex30, e_ex31, e_ex32, e_add, e_sub, e_mul, e_quo, e_rem, e_and, e_or, e_xor, e_shl, e_shr, e_eql, e_neq, e_lss, e_leq, e_gtr, e_geq, e_beq, e_bne, e_peq1, e_peq2, e_pne1, e_pne2, e_zeq1, e_zeq2, e_zne1, e_zne2, e_feq1, e_fne1, e_feq2, e_fne2, e_seq, e_sne, e_ta1, e_ta2, Nat.zero_add, Nat.add_zero, Bool.not_true, Bool.not_false]
  by_cases hlt : c < 3
  · have hlt' : (c : Int) < 3 := by omega
    simp only [hlt', decide_true, e_fd, e_nck, e_pkt, e_pkf, e_gdtt, e_gdtf, e_gdft, e_gdff, e_ift, e_iff, e_not, e_ln, e_lnT, e_cp, e_cvi, e_ex20, e_ex21, e_ex30, e_ex31, e_ex32, e_add, e_sub, e_mul, e_quo, e_rem, e_and, e_or, e_xor, e_shl, e_shr, e_eql, e_neq, e_lss, e_leq, e_gtr, e_geq, e_beq, e_bne, e_peq1, e_peq2, e_pne1, e_pne2, e_zeq1, e_zeq2, e_zne1, e_zne2, e_feq1, e_fne1, e_feq2, e_fne2, e_seq, e_sne, e_ta1, e_ta2, Nat.zero_add, Nat.add_zero, Bool.not_true, Bool.not_false]
    have hadm : t.adm.getD (ps t u % t.occ.length * 3 + c) 0 = ent L a u c := hr.adm u c s0 s1 hlt
    have hec := hen c hlt
    have hps := pcs_bd hen c hc
    generalize hm2 : ps t u % t.occ.length = x at *
    refine h.fld (j := 8) (by omega) rfl ?_
    try simp only [e_fd, e_nck, e_pkt, e_pkf, e_gdtt, e_gdtf, e_gdft, e_gdff, e_ift, e_iff, e_not, e_ln, e_lnT, e_cp, e_cvi, e_ex20, e_ex21, e_ex30, e_ex31, e_ex32, e_add, e_sub, e_mul, e_quo, e_rem, e_and, e_or, e_xor, e_shl, e_shr, e_eql, e_neq, e_lss, e_leq, e_gtr, e_geq, e_beq, e_bne, e_peq1, e_peq2, e_pne1, e_pne2, e_zeq1, e_zeq2, e_zne1, e_zne2, e_feq1, e_fne1, e_feq2, e_fne2, e_seq, e_sne, e_ta1, e_ta2, Nat.zero_add, Nat.add_zero, Bool.not_true, Bool.not_false]
    rw [wrap64_id (n := (x : Int) * 3) (by omega) (by omega), wrap64_id (n := (x : Int) * 3 + c) (by omega) (by omega)]
    have ex : ((x : Int) * 3 + c) = ((x * 3 + c : Nat) : Int) := by omega
    rw [ex]
    refine ixs1_r (by omega) ?_
    refine ldI h.adm (by omega) ?_
    rw [hadm]
    simp only [e_fd, e_nck, e_pkt, e_pkf, e_gdtt, e_gdtf, e_gdft, e_gdff, e_ift, e_iff, e_not, e_ln, e_lnT, e_cp, e_cvi, e_ex20, e_ex21, e_ex30, e_ex31, e_ex32, e_add, e_sub, e_mul, e_quo, e_rem, e_and, e_or, e_xor, e_shl, e_shr, e_eql, e_neq, e_lss, e_leq, e_gtr, e_geq, e_beq, e_bne, e_peq1, e_peq2, e_pne1, e_pne2, e_zeq1, e_zeq2, e_zne1, e_zne2, e_feq1, e_fne1, e_feq2, e_fne2, e_seq, e_sne, e_ta1, e_ta2, Nat.zero_add, Nat.add_zero, Bool.not_true, Bool.not_false]
    rw [wrap64_id (n := S - pcs (ent L a u) c - ent L a u c) (by omega) (by omega), wrap64_id (by omega) (by omega)]
    refine ⟨3 - (c + 1), by omega, c + 1, by omega, rfl, trivial, ?_⟩
    rw [pcs, Int.sub_sub]
    simp
  · have hlt' : ¬ (c : Int) < 3 := by omega
    simp only [hlt', decide_false, e_fd, e_nck, e_pkt, e_pkf, e_gdtt, e_gdtf, e_gdft, e_gdff, e_ift, e_iff, e_not, e_ln, e_lnT, e_cp, e_cvi, e_ex20, e_ex21, e_ex30, e_ex31, e_ex32, e_add, e_sub, e_mul, e_quo, e_rem, e_and, e_or, e_xor, e_shl, e_shr, e_eql, e_neq, e_lss, e_leq, e_gtr, e_geq, e_beq, e_bne, e_peq1, e_peq2, e_pne1, e_pne2, e_zeq1, e_zeq2, e_zne1, e_zne2, e_feq1, e_fne1, e_feq2, e_fne2, e_seq, e_sne, e_ta1, e_ta2, Nat.zero_add, Nat.add_zero, Bool.not_true, Bool.not_false]
    have : c = 3 := by omega
    subst this
    have e : S - pcs (ent L a u) 3 = S - (ent L a u 0 + ent L a u 1 + ent L a u 2) := by rw [pcs, pcs, pcs, pcs]; omega
    rw [e]
    exact hK

theorem sound_ok (h : TabAt w tb o t) (hr : Ring now L a t) (hi : Inv now L) (hK : ∀ w', Kp (fun _ => False) w w' → K (.bool true) w') : cl Try.prog 68 #[.pointer (some ⟨tb, o, none⟩), I now] K w := by
  have ht := hr.tok
  have hb := pa_bd a
  have hdw : (pa a).dwell = dw a := rfl
  have hdt : t.att.dwell = dw a := by rw [hr.att]
  have n0 := hi.n0
  have n1 := hi.n1
  have hlen := hr.len
  have hen : ∀ u c, c < 3 → 0 ≤ ent L a u c ∧ ent L a u c ≤ 12 := fun u c hc => by have := hi.en a u c hc; have := hb.2.2.2.2 c; omega
  have h5 : t.cells[5]? = some (I (dw a - 1)) := by show some (I (t.att.dwell - 1)) = _; rw [hdt]
  apply c68
  unfold s68_p15
  simp only [e_fd, e_nck, e_pkt, e_pkf, e_gdtt, e_gdtf, e_gdft, e_gdff, e_ift, e_iff, e_not, e_ln, e_lnT, e_cp, e_cvi, e_ex20, e_ex21, e_ex30, e_ex31, e_ex32, e_add, e_sub, e_mul, e_quo, e_rem, e_and, e_or, e_xor, e_shl, e_shr, e_eql, e_neq, e_lss, e_leq, e_gtr, e_geq, e_beq, e_bne, e_peq1, e_peq2, e_pne1, e_pne2, e_zeq1, e_zeq2, e_zne1, e_zne2, e_feq1, e_fne1, e_feq2, e_fne2, e_seq, e_sne, e_ta1, e_ta2, Nat.zero_add, Nat.add_zero, Bool.not_true, Bool.not_false]
  refine h.fld (j := 5) (by omega) h5 ?_
  simp only [e_fd, e_nck, e_pkt, e_pkf, e_gdtt, e_gdtf, e_gdft, e_gdff, e_ift, e_iff, e_not, e_ln, e_lnT, e_cp, e_cvi, e_ex20, e_ex21, e_ex30, e_ex31, e_ex32, e_add, e_sub, e_mul, e_quo, e_rem, e_and, e_or, e_xor, e_shl, e_shr, e_eql, e_neq, e_lss, e_leq, e_gtr, e_geq, e_beq, e_bne, e_peq1, e_peq2, e_pne1, e_pne2, e_zeq1, e_zeq2, e_zne1, e_zne2, e_feq1, e_fne1, e_feq2, e_fne2, e_seq, e_sne, e_ta1, e_ta2, Nat.zero_add, Nat.add_zero, Bool.not_true, Bool.not_false]
  rw [wrap64_id (by omega) (by omega)]
  refine cell_ok h ht (by omega) (by omega) fun w1 hk1 => ?_
  refine (h.kp hk1).fld (j := 5) (by omega) h5 ?_
  simp only [e_fd, e_nck, e_pkt, e_pkf, e_gdtt, e_gdtf, e_gdft, e_gdff, e_ift, e_iff, e_not, e_ln, e_lnT, e_cp, e_cvi, e_ex20, e_ex21, e_ex30, e_ex31, e_ex32, e_add, e_sub, e_mul, e_quo, e_rem, e_and, e_or, e_xor, e_shl, e_shr, e_eql, e_neq, e_lss, e_leq, e_gtr, e_geq, e_beq, e_bne, e_peq1, e_peq2, e_pne1, e_pne2, e_zeq1, e_zeq2, e_zne1, e_zne2, e_feq1, e_fne1, e_feq2, e_fne2, e_seq, e_sne, e_ta1, e_ta2, Nat.zero_add, Nat.add_zero, Bool.not_true, Bool.not_false]
  rw [wrap64_id (by omega) (by omega)]
  have hf1 : fst1 now a = now - (dw a - 1) := rfl
  refine ⟨fun m l w' => ∃ s : Int, fst1 now a ≤ s ∧ s ≤ fst1 now a + t.occ.length ∧ m = (fst1 now a + t.occ.length - s).toNat ∧ Kp (fun _ => False) w w' ∧
      l = [.pointer (some ⟨tb, o, none⟩), I now, I (sE (ent L a) (s - 1) (s - max (fst1 now a) (s - (dw a - 1))).toNat), I (ps t s % t.occ.length : Nat), I (ps t (max (fst1 now a) (s - (dw a - 1))) % t.occ.length : Nat), I s],
    t.occ.length, ⟨now - (dw a - 1), by omega, by omega, by omega, hk1, ?_⟩, ?_⟩
  · have e1 : max (fst1 now a) (now - (dw a - 1) - (dw a - 1)) = now - (dw a - 1) := by omega
    rw [e1, show (now - (dw a - 1) - (now - (dw a - 1))).toNat = 0 by omega, sE]
  rintro m l w' ⟨s, s0, s1, hm, hk, rfl⟩
  rw [s68_p14_Fe]
  have hd := (h.kp hk).kp (kp_drw)
  have hkd : Kp (fun _ => False) w (drw w') := hk.trans kp_drw
  unfold s68_p13 s68_p13_d
  simp only [e_fd, e_nck, e_pkt, e_pkf, e_gdtt, e_gdtf, e_gdft, e_gdff, e_ift, e_iff, e_not, e_ln, e_lnT, e_cp, e_cvi, e_ex20, e_ex21, e_ex30, e_ex31, e_ex32, e_add, e_sub, e_mul, e_quo, e_rem, e_and, e_or, e_xor, e_shl, e_shr, e_eql, e_neq, e_lss, e_leq, e_gtr, e_geq, e_beq, e_bne, e_peq1, e_peq2, e_pne1, e_pne2, e_zeq1, e_zeq2, e_zne1, e_zne2, e_feq1, e_fne1, e_feq2, e_fne2, e_seq, e_sne, e_ta1, e_ta2, Nat.zero_add, Nat.add_zero, Bool.not_true, Bool.not_false]
  refine hd.fld (j := 5) (by omega) h5 ?_
  simp only [e_fd, e_nck, e_pkt, e_pkf, e_gdtt, e_gdtf, e_gdft, e_gdff, e_ift, e_iff, e_not, e_ln, e_lnT, e_cp, e_cvi, e_ex20, e_ex21, e_ex30, e_ex31, e_ex32, e_add, e_sub, e_mul, e_quo, e_rem, e_and, e_or, e_xor, e_shl, e_shr, e_eql, e_neq, e_lss, e_leq, e_gtr, e_geq, e_beq, e_bne, e_peq1, e_peq2, e_pne1, e_pne2, e_zeq1, e_zeq2, e_zne1, e_zne2, e_feq1, e_fne1, e_feq2, e_fne2, e_seq, e_sne, e_ta1, e_ta2, Nat.zero_add, Nat.add_zero, Bool.not_true, Bool.not_false]
  refine hd.fld (j := 6) (by omega) rfl ?_
  simp only [e_fd, e_nck, e_pkt, e_pkf, e_gdtt, e_gdtf, e_gdft, e_gdff, e_ift, e_iff, e_not, e_ln, e_lnT, e_cp, e_cvi, e_ex20, e_ex21, e_ex30, e_ex31, e_ex32, e_add, e_sub, e_mul, e_quo, e_rem, e_and, e_or, e_xor, e_shl, e_shr, e_eql, e_neq, e_lss, e_leq, e_gtr, e_geq, e_beq, e_bne, e_peq1, e_peq2, e_pne1, e_pne2, e_zeq1, e_zeq2, e_zne1, e_zne2, e_feq1, e_fne1, e_feq2, e_fne2, e_seq, e_sne, e_ta1, e_ta2, Nat.zero_add, Nat.add_zero, Bool.not_true, Bool.not_false]
  rw [wrap64_id (n := now - (dw a - 1)) (by omega) (by omega), wrap64_id (by omega) (by omega)]
  unfold s68_p12
  by_cases hlt : s < now - (dw a - 1) + t.occ.length
  · simp only [hlt, decide_true, e_fd, e_nck, e_pkt, e_pkf, e_gdtt, e_gdtf, e_gdft, e_gdff, e_ift, e_iff, e_not, e_ln, e_lnT, e_cp, e_cvi, e_ex20, e_ex21, e_ex30, e_ex31, e_ex32, e_add, e_sub, e_mul, e_quo, e_rem, e_and, e_or, e_xor, e_shl, e_shr, e_eql, e_neq, e_lss, e_leq, e_gtr, e_geq, e_beq, e_bne, e_peq1, e_peq2, e_pne1, e_pne2, e_zeq1, e_zeq2, e_zne1, e_zne2, e_feq1, e_fne1, e_feq2, e_fne2, e_seq, e_sne, e_ta1, e_ta2, Nat.zero_add, Nat.add_zero, Bool.not_true, Bool.not_false]
    have hse := sE_bd hen (s - 1) (s - max (fst1 now a) (s - (dw a - 1))).toNat
    refine snd_add (j := 0) hd hr hi s0 (by omega) (by omega) (by omega) ?_
    rw [show sE (ent L a) (s - 1) (s - max (fst1 now a) (s - (dw a - 1))).toNat + (ent L a s 0 + ent L a s 1 + ent L a s 2) = sE (ent L a) s ((s - max (fst1 now a) (s - (dw a - 1))).toNat + 1) by rw [sE_top]; omega]
    have hse2 := sE_bd hen s ((s - max (fst1 now a) (s - (dw a - 1))).toNat + 1)
    unfold s68_p8
    simp only [e_fd, e_nck, e_pkt, e_pkf, e_gdtt, e_gdtf, e_gdft, e_gdff, e_ift, e_iff, e_not, e_ln, e_lnT, e_cp, e_cvi, e_ex20, e_ex21, e_ex30, e_ex31, e_ex32, e_add, e_sub, e_mul, e_quo, e_rem, e_and, e_or, e_xor, e_shl, e_shr, e_eql, e_neq, e_lss, e_leq, e_gtr, e_geq, e_beq, e_bne, e_peq1, e_peq2, e_pne1, e_pne2, e_zeq1, e_zeq2, e_zne1, e_zne2, e_feq1, e_fne1, e_feq2, e_fne2, e_seq, e_sne, e_ta1, e_ta2, Nat.zero_add, Nat.add_zero, Bool.not_true, Bool.not_false]
    have nx : ∀ x : Int, fst1 now a ≤ x → (ps t x % t.occ.length + 1) % t.occ.length = ps t (x + 1) % t.occ.length := fun x hx => hr.nxt (by omega)
    by_cases hge : now ≤ s
    · simp only [hge, decide_true, e_fd, e_nck, e_pkt, e_pkf, e_gdtt, e_gdtf, e_gdft, e_gdff, e_ift, e_iff, e_not, e_ln, e_lnT, e_cp, e_cvi, e_ex20, e_ex21, e_ex30, e_ex31, e_ex32, e_add, e_sub, e_mul, e_quo, e_rem, e_and, e_or, e_xor, e_shl, e_shr, e_eql, e_neq, e_lss, e_leq, e_gtr, e_geq, e_beq, e_bne, e_peq1, e_peq2, e_pne1, e_pne2, e_zeq1, e_zeq2, e_zne1, e_zne2, e_feq1, e_fne1, e_feq2, e_fne2, e_seq, e_sne, e_ta1, e_ta2, Nat.zero_add, Nat.add_zero, Bool.not_true, Bool.not_false]
      have emx : max (fst1 now a) (s - (dw a - 1)) = s - (dw a - 1) := by omega
      rw [emx] at hse hse2 ⊢
      have ek : (s - (s - (dw a - 1))).toNat + 1 = (dw a).toNat := by omega
      have eocc : t.occ.getD (ps t s % t.occ.length) 0 = sE (ent L a) s ((s - (s - (dw a - 1))).toNat + 1) := by
        rw [ek, ← ins_sum (fun e he => (hi.sl e he).2.2) a (dw a) s (by omega)]
        exact hr.occ s (by omega) (by omega)
      refine hd.fld (j := 7) (by omega) rfl ?_
      refine ixs1_r hr.cell ?_
      refine ldI hd.occ hr.cell ?_
      rw [eocc]
      have ene : (sE (ent L a) s ((s - (s - (dw a - 1))).toNat + 1) != sE (ent L a) s ((s - (s - (dw a - 1))).toNat + 1)) = false := by simp
      simp only [ene, e_fd, e_nck, e_pkt, e_pkf, e_gdtt, e_gdtf, e_gdft, e_gdff, e_ift, e_iff, e_not, e_ln, e_lnT, e_cp, e_cvi, e_ex20, e_ex21, e_ex30, e_ex31, e_ex32, e_add, e_sub, e_mul, e_quo, e_rem, e_and, e_or, e_xor, e_shl, e_shr, e_eql, e_neq, e_lss, e_leq, e_gtr, e_geq, e_beq, e_bne, e_peq1, e_peq2, e_pne1, e_pne2, e_zeq1, e_zeq2, e_zne1, e_zne2, e_feq1, e_fne1, e_feq2, e_fne2, e_seq, e_sne, e_ta1, e_ta2, Nat.zero_add, Nat.add_zero, Bool.not_true, Bool.not_false]
      refine next_ok hd ht hr.cell ?_
      try simp only [hge, decide_true, e_fd, e_nck, e_pkt, e_pkf, e_gdtt, e_gdtf, e_gdft, e_gdff, e_ift, e_iff, e_not, e_ln, e_lnT, e_cp, e_cvi, e_ex20, e_ex21, e_ex30, e_ex31, e_ex32, e_add, e_sub, e_mul, e_quo, e_rem, e_and, e_or, e_xor, e_shl, e_shr, e_eql, e_neq, e_lss, e_leq, e_gtr, e_geq, e_beq, e_bne, e_peq1, e_peq2, e_pne1, e_pne2, e_zeq1, e_zeq2, e_zne1, e_zne2, e_feq1, e_fne1, e_feq2, e_fne2, e_seq, e_sne, e_ta1, e_ta2, Nat.zero_add, Nat.add_zero, Bool.not_true, Bool.not_false]
      rw [nx s s0]
      unfold s68_p7
      simp only [e_fd, e_nck, e_pkt, e_pkf, e_gdtt, e_gdtf, e_gdft, e_gdff, e_ift, e_iff, e_not, e_ln, e_lnT, e_cp, e_cvi, e_ex20, e_ex21, e_ex30, e_ex31, e_ex32, e_add, e_sub, e_mul, e_quo, e_rem, e_and, e_or, e_xor, e_shl, e_shr, e_eql, e_neq, e_lss, e_leq, e_gtr, e_geq, e_beq, e_bne, e_peq1, e_peq2, e_pne1, e_pne2, e_zeq1, e_zeq2, e_zne1, e_zne2, e_feq1, e_fne1, e_feq2, e_fne2, e_seq, e_sne, e_ta1, e_ta2, Nat.zero_add, Nat.add_zero, Bool.not_true, Bool.not_false]
      refine snd_sub hd hr hi (by omega) (by omega) (by omega) (by omega) ?_
      have es : sE (ent L a) s ((s - (s - (dw a - 1))).toNat + 1) - (ent L a (s - (dw a - 1)) 0 + ent L a (s - (dw a - 1)) 1 + ent L a (s - (dw a - 1)) 2) = sE (ent L a) s (s - (s - (dw a - 1))).toNat := by
        rw [sE]
        have e : s - ((s - (s - (dw a - 1))).toNat : Int) = s - (dw a - 1) := by omega
        rw [e]; omega
      rw [es]
      unfold s68_p3
      refine next_ok hd ht hr.cell ?_
      rw [nx _ (by omega)]
      unfold s68_p2
      simp only [e_fd, e_nck, e_pkt, e_pkf, e_gdtt, e_gdtf, e_gdft, e_gdff, e_ift, e_iff, e_not, e_ln, e_lnT, e_cp, e_cvi, e_ex20, e_ex21, e_ex30, e_ex31, e_ex32, e_add, e_sub, e_mul, e_quo, e_rem, e_and, e_or, e_xor, e_shl, e_shr, e_eql, e_neq, e_lss, e_leq, e_gtr, e_geq, e_beq, e_bne, e_peq1, e_peq2, e_pne1, e_pne2, e_zeq1, e_zeq2, e_zne1, e_zne2, e_feq1, e_fne1, e_feq2, e_fne2, e_seq, e_sne, e_ta1, e_ta2, Nat.zero_add, Nat.add_zero, Bool.not_true, Bool.not_false]
      rw [wrap64_id (by omega) (by omega)]
      refine ⟨(fst1 now a + t.occ.length - (s + 1)).toNat, by omega, s + 1, by omega, by omega, rfl, hkd, ?_⟩
      have e1 : max (fst1 now a) (s + 1 - (dw a - 1)) = s - (dw a - 1) + 1 := by omega
      rw [e1, show s + 1 - 1 = s by omega, show (s + 1 - (s - (dw a - 1) + 1)).toNat = (s - (s - (dw a - 1))).toNat by omega]
    · have hge' : ¬ now ≤ s := hge
      simp only [hge', decide_false, e_fd, e_nck, e_pkt, e_pkf, e_gdtt, e_gdtf, e_gdft, e_gdff, e_ift, e_iff, e_not, e_ln, e_lnT, e_cp, e_cvi, e_ex20, e_ex21, e_ex30, e_ex31, e_ex32, e_add, e_sub, e_mul, e_quo, e_rem, e_and, e_or, e_xor, e_shl, e_shr, e_eql, e_neq, e_lss, e_leq, e_gtr, e_geq, e_beq, e_bne, e_peq1, e_peq2, e_pne1, e_pne2, e_zeq1, e_zeq2, e_zne1, e_zne2, e_feq1, e_fne1, e_feq2, e_fne2, e_seq, e_sne, e_ta1, e_ta2, Nat.zero_add, Nat.add_zero, Bool.not_true, Bool.not_false]
      refine next_ok hd ht hr.cell ?_
      try simp only [hge', decide_false, e_fd, e_nck, e_pkt, e_pkf, e_gdtt, e_gdtf, e_gdft, e_gdff, e_ift, e_iff, e_not, e_ln, e_lnT, e_cp, e_cvi, e_ex20, e_ex21, e_ex30, e_ex31, e_ex32, e_add, e_sub, e_mul, e_quo, e_rem, e_and, e_or, e_xor, e_shl, e_shr, e_eql, e_neq, e_lss, e_leq, e_gtr, e_geq, e_beq, e_bne, e_peq1, e_peq2, e_pne1, e_pne2, e_zeq1, e_zeq2, e_zne1, e_zne2, e_feq1, e_fne1, e_feq2, e_fne2, e_seq, e_sne, e_ta1, e_ta2, Nat.zero_add, Nat.add_zero, Bool.not_true, Bool.not_false]
      rw [nx s s0]
      unfold s68_p7
      simp only [e_fd, e_nck, e_pkt, e_pkf, e_gdtt, e_gdtf, e_gdft, e_gdff, e_ift, e_iff, e_not, e_ln, e_lnT, e_cp, e_cvi, e_ex20, e_ex21, e_ex30, e_ex31, e_ex32, e_add, e_sub, e_mul, e_quo, e_rem, e_and, e_or, e_xor, e_shl, e_shr, e_eql, e_neq, e_lss, e_leq, e_gtr, e_geq, e_beq, e_bne, e_peq1, e_peq2, e_pne1, e_pne2, e_zeq1, e_zeq2, e_zne1, e_zne2, e_feq1, e_fne1, e_feq2, e_fne2, e_seq, e_sne, e_ta1, e_ta2, Nat.zero_add, Nat.add_zero, Bool.not_true, Bool.not_false]
      unfold s68_p2
      simp only [e_fd, e_nck, e_pkt, e_pkf, e_gdtt, e_gdtf, e_gdft, e_gdff, e_ift, e_iff, e_not, e_ln, e_lnT, e_cp, e_cvi, e_ex20, e_ex21, e_ex30, e_ex31, e_ex32, e_add, e_sub, e_mul, e_quo, e_rem, e_and, e_or, e_xor, e_shl, e_shr, e_eql, e_neq, e_lss, e_leq, e_gtr, e_geq, e_beq, e_bne, e_peq1, e_peq2, e_pne1, e_pne2, e_zeq1, e_zeq2, e_zne1, e_zne2, e_feq1, e_fne1, e_feq2, e_fne2, e_seq, e_sne, e_ta1, e_ta2, Nat.zero_add, Nat.add_zero, Bool.not_true, Bool.not_false]
      rw [wrap64_id (by omega) (by omega)]
      refine ⟨(fst1 now a + t.occ.length - (s + 1)).toNat, by omega, s + 1, by omega, by omega, rfl, hkd, ?_⟩
      have e1 : max (fst1 now a) (s + 1 - (dw a - 1)) = fst1 now a := by omega
      have e2 : max (fst1 now a) (s - (dw a - 1)) = fst1 now a := by omega
      rw [e1, e2, show s + 1 - 1 = s by omega, show (s + 1 - fst1 now a).toNat = (s - fst1 now a).toNat + 1 by omega]
  · simp only [hlt, decide_false, e_fd, e_nck, e_pkt, e_pkf, e_gdtt, e_gdtf, e_gdft, e_gdff, e_ift, e_iff, e_not, e_ln, e_lnT, e_cp, e_cvi, e_ex20, e_ex21, e_ex30, e_ex31, e_ex32, e_add, e_sub, e_mul, e_quo, e_rem, e_and, e_or, e_xor, e_shl, e_shr, e_eql, e_neq, e_lss, e_leq, e_gtr, e_geq, e_beq, e_bne, e_peq1, e_peq2, e_pne1, e_pne2, e_zeq1, e_zeq2, e_zne1, e_zne2, e_feq1, e_fne1, e_feq2, e_fne2, e_seq, e_sne, e_ta1, e_ta2, Nat.zero_add, Nat.add_zero, Bool.not_true, Bool.not_false]
    unfold s68_p1
    exact hK _ hkd

theorem Sound_ok {W : World} {d tb : Nat} {ts : List Tab} (h : St W w d tb now ts L) (hK : ∀ w', Kp (fun _ => False) w w' → K (.bool true) w') : cl Try.prog 34 #[ptr d] K w := by
  apply c34
  unfold s34_p8 ptr
  simp only [e_fd, e_nck, e_pkt, e_pkf, e_gdtt, e_gdtf, e_gdft, e_gdff, e_ift, e_iff, e_not, e_ln, e_lnT, e_cp, e_cvi, e_ex20, e_ex21, e_ex30, e_ex31, e_ex32, e_add, e_sub, e_mul, e_quo, e_rem, e_and, e_or, e_xor, e_shl, e_shr, e_eql, e_neq, e_lss, e_leq, e_gtr, e_geq, e_beq, e_bne, e_peq1, e_peq2, e_pne1, e_pne2, e_zeq1, e_zeq2, e_zne1, e_zne2, e_feq1, e_fne1, e_feq2, e_fne2, e_seq, e_sne, e_ta1, e_ta2, Nat.zero_add, Nat.add_zero, Bool.not_true, Bool.not_false]
  refine ld1_r h.tabs.top rfl ?_
  simp only [e_fd, e_nck, e_pkt, e_pkf, e_gdtt, e_gdtf, e_gdft, e_gdff, e_ift, e_iff, e_not, e_ln, e_lnT, e_cp, e_cvi, e_ex20, e_ex21, e_ex30, e_ex31, e_ex32, e_add, e_sub, e_mul, e_quo, e_rem, e_and, e_or, e_xor, e_shl, e_shr, e_eql, e_neq, e_lss, e_leq, e_gtr, e_geq, e_beq, e_bne, e_peq1, e_peq2, e_pne1, e_pne2, e_zeq1, e_zeq2, e_zne1, e_zne2, e_feq1, e_fne1, e_feq2, e_fne2, e_seq, e_sne, e_ta1, e_ta2, Nat.zero_add, Nat.add_zero, Bool.not_true, Bool.not_false]
  have hlen := h.good.len
  refine ⟨fun m l w' => ∃ a : Nat, a ≤ 4 ∧ m = 4 - a ∧ Kp (fun _ => False) w w' ∧ l = [ptr d, I ts.length, I a], 4, ⟨0, by omega, by omega, Kp.refl _ _, rfl⟩, ?_⟩
  rintro m l w' ⟨a, ha, hm, hk, rfl⟩
  rw [s34_p7_Fe]
  unfold s34_p6
  simp only [e_fd, e_nck, e_pkt, e_pkf, e_gdtt, e_gdtf, e_gdft, e_gdff, e_ift, e_iff, e_not, e_ln, e_lnT, e_cp, e_cvi, e_ex20, e_ex21, e_ex30, e_ex31, e_ex32, e_add, e_sub, e_mul, e_quo, e_rem, e_and, e_or, e_xor, e_shl, e_shr, e_eql, e_neq, e_lss, e_leq, e_gtr, e_geq, e_beq, e_bne, e_peq1, e_peq2, e_pne1, e_pne2, e_zeq1, e_zeq2, e_zne1, e_zne2, e_feq1, e_fne1, e_feq2, e_fne2, e_seq, e_sne, e_ta1, e_ta2, Nat.zero_add, Nat.add_zero, Bool.not_true, Bool.not_false]
  have hd : St W (drw w') d tb now ts L := h.kp (hk.trans kp_drw)
  by_cases hlt : a < 4
  · have hal : a < ts.length := by omega
    have hlt' : (a : Int) < (ts.length : Int) := by omega
    simp only [hlt', decide_true, e_fd, e_nck, e_pkt, e_pkf, e_gdtt, e_gdtf, e_gdft, e_gdff, e_ift, e_iff, e_not, e_ln, e_lnT, e_cp, e_cvi, e_ex20, e_ex21, e_ex30, e_ex31, e_ex32, e_add, e_sub, e_mul, e_quo, e_rem, e_and, e_or, e_xor, e_shl, e_shr, e_eql, e_neq, e_lss, e_leq, e_gtr, e_geq, e_beq, e_bne, e_peq1, e_peq2, e_pne1, e_pne2, e_zeq1, e_zeq2, e_zne1, e_zne2, e_feq1, e_fne1, e_feq2, e_fne2, e_seq, e_sne, e_ta1, e_ta2, Nat.zero_add, Nat.add_zero, Bool.not_true, Bool.not_false]
    unfold s34_p5 s34_p4 s34_p4_d ptr
    simp only [e_fd, e_nck, e_pkt, e_pkf, e_gdtt, e_gdtf, e_gdft, e_gdff, e_ift, e_iff, e_not, e_ln, e_lnT, e_cp, e_cvi, e_ex20, e_ex21, e_ex30, e_ex31, e_ex32, e_add, e_sub, e_mul, e_quo, e_rem, e_and, e_or, e_xor, e_shl, e_shr, e_eql, e_neq, e_lss, e_leq, e_gtr, e_geq, e_beq, e_bne, e_peq1, e_peq2, e_pne1, e_pne2, e_zeq1, e_zeq2, e_zne1, e_zne2, e_feq1, e_fne1, e_feq2, e_fne2, e_seq, e_sne, e_ta1, e_ta2, Nat.zero_add, Nat.add_zero, Bool.not_true, Bool.not_false]
    refine ld1_r hd.tabs.top rfl ?_
    refine ixs_r hal ?_
    refine ld1_r hd.tabs.top rfl ?_
    refine sound_ok (hd.tabs.at hal) (h.good.ring a hal) h.good.inv fun w2 hk2 => ?_
    simp only [e_fd, e_nck, e_pkt, e_pkf, e_gdtt, e_gdtf, e_gdft, e_gdff, e_ift, e_iff, e_not, e_ln, e_lnT, e_cp, e_cvi, e_ex20, e_ex21, e_ex30, e_ex31, e_ex32, e_add, e_sub, e_mul, e_quo, e_rem, e_and, e_or, e_xor, e_shl, e_shr, e_eql, e_neq, e_lss, e_leq, e_gtr, e_geq, e_beq, e_bne, e_peq1, e_peq2, e_pne1, e_pne2, e_zeq1, e_zeq2, e_zne1, e_zne2, e_feq1, e_fne1, e_feq2, e_fne2, e_seq, e_sne, e_ta1, e_ta2, Nat.zero_add, Nat.add_zero, Bool.not_true, Bool.not_false, Bool.not_true]
    unfold s34_p3 s34_p2
    simp only [e_fd, e_nck, e_pkt, e_pkf, e_gdtt, e_gdtf, e_gdft, e_gdff, e_ift, e_iff, e_not, e_ln, e_lnT, e_cp, e_cvi, e_ex20, e_ex21, e_ex30, e_ex31, e_ex32, e_add, e_sub, e_mul, e_quo, e_rem, e_and, e_or, e_xor, e_shl, e_shr, e_eql, e_neq, e_lss, e_leq, e_gtr, e_geq, e_beq, e_bne, e_peq1, e_peq2, e_pne1, e_pne2, e_zeq1, e_zeq2, e_zne1, e_zne2, e_feq1, e_fne1, e_feq2, e_fne2, e_seq, e_sne, e_ta1, e_ta2, Nat.zero_add, Nat.add_zero, Bool.not_true, Bool.not_false]
    rw [wrap64_id (by omega) (by omega)]
    exact ⟨4 - (a + 1), by omega, a + 1, by omega, rfl, (hk.trans kp_drw).trans hk2, by simp [ptr]⟩
  · have hlt' : ¬ (a : Int) < (ts.length : Int) := by omega
    simp only [hlt', decide_false, e_fd, e_nck, e_pkt, e_pkf, e_gdtt, e_gdtf, e_gdft, e_gdff, e_ift, e_iff, e_not, e_ln, e_lnT, e_cp, e_cvi, e_ex20, e_ex21, e_ex30, e_ex31, e_ex32, e_add, e_sub, e_mul, e_quo, e_rem, e_and, e_or, e_xor, e_shl, e_shr, e_eql, e_neq, e_lss, e_leq, e_gtr, e_geq, e_beq, e_bne, e_peq1, e_peq2, e_pne1, e_pne2, e_zeq1, e_zeq2, e_zne1, e_zne2, e_feq1, e_fne1, e_feq2, e_fne2, e_seq, e_sne, e_ta1, e_ta2, Nat.zero_add, Nat.add_zero, Bool.not_true, Bool.not_false]
    unfold s34_p1
    exact hK w' hk
end
end Go.Proofs.Qxb6500897a
