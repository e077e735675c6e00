import Derived.Test.Qxb6500896aGreatDoorGa
import Derived.Test.Qxb6500896aGreatDoorShAr
import Derived.Test.Qxb6500896aGreatDoorShIv
import Derived.Test.Qxb6500896aGreatDoorShVs
namespace Go.Proofs.Qxb6500896aGreatDoor
open Go.Sh Go.RowKit
set_option linter.unusedVariables false
set_option linter.unusedSimpArgs false

abbrev I (n : Int) : Value := .int .i64 n
abbrev U8 (n : Int) : Value := .int .u8 n
abbrev P (b o : Nat) : Value := .pointer (some ⟨b, o, none⟩)
abbrev nilS : Value := .slice none 0 0
abbrev Emp : Nat → Prop := fun _ => False
def one (v : Value) : List Value := [v]
def iC (n : Int) : List Value := [I n]
def bC (n : Int) : List Value := [U8 n]
theorem one_len (v : Value) : (one v).length = 1 := rfl
theorem iC_len (n : Int) : (iC n).length = 1 := rfl
theorem bC_len (n : Int) : (bC n).length = 1 := rfl
theorem iC_sc (n : Int) : (iC n).all scal = true := rfl
theorem bC_sc (n : Int) : (bC n).all scal = true := rfl
structure Att where
  cap : Int
  dw : Int
  q0 : Int
  q1 : Int
  q2 : Int
def Att.cells (a : Att) : List Value := [I a.cap, I a.dw, I a.q0, I a.q1, I a.q2]
theorem Att.len (a : Att) : a.cells.length = 5 := rfl
theorem Att.sc (a : Att) : a.cells.all scal = true := rfl
structure Cfg where
  ats : List Att
  tr : List (List Int)
  hz : Int
  mc : Int
  mp : Int
  ml : Int
  ht : Int
  gr : Int
  rt : Int
  of : Int
  mb : Int
  mx : Int
  pg : Int
  se : Int
def Cfg.cells (C : Cfg) (va vt : Value) : List Value := [va, vt, I C.hz, I C.mc, I C.mp, I C.ml, I C.ht, I C.gr, I C.rt, I C.of, I C.mb, I C.mx, I C.pg, I C.se]
/-- rows of numbers -/
def Rws (F : Nat → Prop) (w : World) (v : Value) (xss : List (List Int)) : Prop :=
  ∃ rvs : List Value, Ar one 1 F w v rvs ∧ rvs.length = xss.length ∧ ∀ i (h : i < rvs.length) (h2 : i < xss.length), Ar iC 1 F w rvs[i] xss[i]
/-- a configuration in memory -/
structure Cg (F : Nat → Prop) (w : World) (l : List Value) (C : Cfg) : Prop where
  ex : ∃ va vt, l = C.cells va vt ∧ Ar Att.cells 5 F w va C.ats ∧ Rws F w vt C.tr
section
variable {F G S : Nat → Prop} {w w' : World} {v : Value} {l : List Value} {C : Cfg} {xss : List (List Int)} {K : Value → World → Prop}
theorem Rws.kp (h : Rws F w v xss) (hk : Kp S w w') (hn : ∀ b, F b → ¬ S b) : Rws F w' v xss := by
  obtain ⟨rvs, h1, h2, h3⟩ := h
  exact ⟨rvs, h1.kp hk hn, h2, fun i a b => (h3 i a b).kp hk hn⟩
theorem Rws.mono (h : Rws F w v xss) (hs : ∀ b, F b → G b) : Rws G w v xss := by
  obtain ⟨rvs, h1, h2, h3⟩ := h
  exact ⟨rvs, h1.mono hs, h2, fun i a b => (h3 i a b).mono hs⟩
theorem Rws.kp' (h : Rws F w v xss) (hk : Kp Emp w w') : Rws F w' v xss := h.kp hk fun _ _ q => q
theorem Cg.kp (h : Cg F w l C) (hk : Kp S w w') (hn : ∀ b, F b → ¬ S b) : Cg F w' l C := by
  obtain ⟨va, vt, e, h1, h2⟩ := h.ex
  exact ⟨va, vt, e, h1.kp hk hn, h2.kp hk hn⟩
theorem Cg.kp' (h : Cg F w l C) (hk : Kp Emp w w') : Cg F w' l C := h.kp hk fun _ _ q => q
theorem Cg.mono (h : Cg F w l C) (hs : ∀ b, F b → G b) : Cg G w l C := by
  obtain ⟨va, vt, e, h1, h2⟩ := h.ex
  exact ⟨va, vt, e, h1.mono hs, h2.mono hs⟩
theorem Cg.len (h : Cg F w l C) : l.length = 14 := by obtain ⟨va, vt, rfl, _⟩ := h.ex; rfl
theorem Cg.sc (h : Cg F w l C) : l.all scal = true := by
  obtain ⟨va, vt, rfl, h1, rvs, h2, _⟩ := h.ex
  unfold Cfg.cells
  simp only [List.all_cons, h1.scal, h2.scal]
  rfl

def inR (n lo hi : Int) : Bool := decide (lo ≤ n) && decide (n ≤ hi)
theorem inRange_ok {n lo hi : Int} (hK : K (.bool (inR n lo hi)) w) : cl Tryz.prog 76 #[I n, I lo, I hi] K w := by
  apply c76
  unfold s76_p1
  try simp only [e_fd, e_nck, e_pkt, e_pkf, e_gdtt, e_gdtf, e_gdft, e_gdff, e_ift, e_iff, e_not, e_ln, e_lnT, e_cp, e_cvi, e_ex20, e_ex21, e_ex30, e_ex31, e_ex32, e_add, e_sub, e_mul, e_quo, e_rem, e_and, e_or, e_xor, e_shl, e_shr, e_eql, e_neq, e_lss, e_leq, e_gtr, e_geq, e_beq, e_bne, e_peq1, e_peq2, e_pne1, e_pne2, e_zeq1, e_zeq2, e_zne1, e_zne2, e_feq1, e_fne1, e_feq2, e_fne2, e_seq, e_sne, e_ta1, e_ta2, Nat.zero_add, Nat.add_zero, Bool.not_true, Bool.not_false]
  unfold inR at hK
  by_cases h : lo ≤ n
  · simp only [h, decide_true, Bool.true_and, e_fd, e_nck, e_pkt, e_pkf, e_gdtt, e_gdtf, e_gdft, e_gdff, e_ift, e_iff, e_not, e_ln, e_lnT, e_cp, e_cvi, e_ex20, e_ex21, e_ex30, e_ex31, e_ex32, e_add, e_sub, e_mul, e_quo, e_rem, e_and, e_or, e_xor, e_shl, e_shr, e_eql, e_neq, e_lss, e_leq, e_gtr, e_geq, e_beq, e_bne, e_peq1, e_peq2, e_pne1, e_pne2, e_zeq1, e_zeq2, e_zne1, e_zne2, e_feq1, e_fne1, e_feq2, e_fne2, e_seq, e_sne, e_ta1, e_ta2, Nat.zero_add, Nat.add_zero, Bool.not_true, Bool.not_false] at hK ⊢
    exact hK
  · simp only [h, decide_false, Bool.false_and, e_fd, e_nck, e_pkt, e_pkf, e_gdtt, e_gdtf, e_gdft, e_gdff, e_ift, e_iff, e_not, e_ln, e_lnT, e_cp, e_cvi, e_ex20, e_ex21, e_ex30, e_ex31, e_ex32, e_add, e_sub, e_mul, e_quo, e_rem, e_and, e_or, e_xor, e_shl, e_shr, e_eql, e_neq, e_lss, e_leq, e_gtr, e_geq, e_beq, e_bne, e_peq1, e_peq2, e_pne1, e_pne2, e_zeq1, e_zeq2, e_zne1, e_zne2, e_feq1, e_fne1, e_feq2, e_fne2, e_seq, e_sne, e_ta1, e_ta2, Nat.zero_add, Nat.add_zero, Bool.not_true, Bool.not_false] at hK ⊢
    exact hK
def vAtt (a : Att) : Bool := inR a.cap 1 1073741824 && inR a.dw 1 1048576 && inR a.q0 0 1073741824 && inR a.q1 0 1073741824 && inR a.q2 0 1073741824
set_option maxRecDepth 100000 in
theorem ivq : ivK Tryz.prog 42 = some 3 := by kernel_rfl
theorem validAttraction_ok {a : Att} (hK : ∀ w', Kp Emp w w' → K (.bool (vAtt a)) w') : cl Tryz.prog 77 #[.agg a.cells.toArray] K w := by
  apply c77
  unfold s77_p4
  refine nw_r fun w1 r1 hk1 hz1 => ?_
  replace r1 : Row w1 w.heap.size 129 a.cells := r1
  try simp only [e_fd, e_nck, e_pkt, e_pkf, e_gdtt, e_gdtf, e_gdft, e_gdff, e_ift, e_iff, e_not, e_ln, e_lnT, e_cp, e_cvi, e_ex20, e_ex21, e_ex30, e_ex31, e_ex32, e_add, e_sub, e_mul, e_quo, e_rem, e_and, e_or, e_xor, e_shl, e_shr, e_eql, e_neq, e_lss, e_leq, e_gtr, e_geq, e_beq, e_bne, e_peq1, e_peq2, e_pne1, e_pne2, e_zeq1, e_zeq2, e_zne1, e_zne2, e_feq1, e_fne1, e_feq2, e_fne2, e_seq, e_sne, e_ta1, e_ta2, Nat.zero_add, Nat.add_zero, Bool.not_true, Bool.not_false]
  refine ld1_r r1 rfl ?_
  refine inRange_ok ?_
  try simp only [e_fd, e_nck, e_pkt, e_pkf, e_gdtt, e_gdtf, e_gdft, e_gdff, e_ift, e_iff, e_not, e_ln, e_lnT, e_cp, e_cvi, e_ex20, e_ex21, e_ex30, e_ex31, e_ex32, e_add, e_sub, e_mul, e_quo, e_rem, e_and, e_or, e_xor, e_shl, e_shr, e_eql, e_neq, e_lss, e_leq, e_gtr, e_geq, e_beq, e_bne, e_peq1, e_peq2, e_pne1, e_pne2, e_zeq1, e_zeq2, e_zne1, e_zne2, e_feq1, e_fne1, e_feq2, e_fne2, e_seq, e_sne, e_ta1, e_ta2, Nat.zero_add, Nat.add_zero, Bool.not_true, Bool.not_false]
  have hK := hK w1 hk1
  unfold vAtt at hK
  cases h1 : inR a.cap 1 1073741824 with
  | false =>
    rw [h1] at hK
    simp only [Bool.not_false, e_fd, e_nck, e_pkt, e_pkf, e_gdtt, e_gdtf, e_gdft, e_gdff, e_ift, e_iff, e_not, e_ln, e_lnT, e_cp, e_cvi, e_ex20, e_ex21, e_ex30, e_ex31, e_ex32, e_add, e_sub, e_mul, e_quo, e_rem, e_and, e_or, e_xor, e_shl, e_shr, e_eql, e_neq, e_lss, e_leq, e_gtr, e_geq, e_beq, e_bne, e_peq1, e_peq2, e_pne1, e_pne2, e_zeq1, e_zeq2, e_zne1, e_zne2, e_feq1, e_fne1, e_feq2, e_fne2, e_seq, e_sne, e_ta1, e_ta2, Nat.zero_add, Nat.add_zero, Bool.not_true, Bool.not_false]
    simpa using hK
  | true =>
    rw [h1] at hK
    simp only [Bool.not_true, e_fd, e_nck, e_pkt, e_pkf, e_gdtt, e_gdtf, e_gdft, e_gdff, e_ift, e_iff, e_not, e_ln, e_lnT, e_cp, e_cvi, e_ex20, e_ex21, e_ex30, e_ex31, e_ex32, e_add, e_sub, e_mul, e_quo, e_rem, e_and, e_or, e_xor, e_shl, e_shr, e_eql, e_neq, e_lss, e_leq, e_gtr, e_geq, e_beq, e_bne, e_peq1, e_peq2, e_pne1, e_pne2, e_zeq1, e_zeq2, e_zne1, e_zne2, e_feq1, e_fne1, e_feq2, e_fne2, e_seq, e_sne, e_ta1, e_ta2, Nat.zero_add, Nat.add_zero, Bool.not_true, Bool.not_false]
    refine ld1_r r1 rfl ?_
    refine inRange_ok ?_
    cases h2 : inR a.dw 1 1048576 with
    | false =>
      rw [h2] at hK
      simp only [Bool.not_false, e_fd, e_nck, e_pkt, e_pkf, e_gdtt, e_gdtf, e_gdft, e_gdff, e_ift, e_iff, e_not, e_ln, e_lnT, e_cp, e_cvi, e_ex20, e_ex21, e_ex30, e_ex31, e_ex32, e_add, e_sub, e_mul, e_quo, e_rem, e_and, e_or, e_xor, e_shl, e_shr, e_eql, e_neq, e_lss, e_leq, e_gtr, e_geq, e_beq, e_bne, e_peq1, e_peq2, e_pne1, e_pne2, e_zeq1, e_zeq2, e_zne1, e_zne2, e_feq1, e_fne1, e_feq2, e_fne2, e_seq, e_sne, e_ta1, e_ta2, Nat.zero_add, Nat.add_zero, Bool.not_true, Bool.not_false]
      simpa using hK
    | true =>
      rw [h2] at hK
      simp only [Bool.not_true, e_fd, e_nck, e_pkt, e_pkf, e_gdtt, e_gdtf, e_gdft, e_gdff, e_ift, e_iff, e_not, e_ln, e_lnT, e_cp, e_cvi, e_ex20, e_ex21, e_ex30, e_ex31, e_ex32, e_add, e_sub, e_mul, e_quo, e_rem, e_and, e_or, e_xor, e_shl, e_shr, e_eql, e_neq, e_lss, e_leq, e_gtr, e_geq, e_beq, e_bne, e_peq1, e_peq2, e_pne1, e_pne2, e_zeq1, e_zeq2, e_zne1, e_zne2, e_feq1, e_fne1, e_feq2, e_fne2, e_seq, e_sne, e_ta1, e_ta2, Nat.zero_add, Nat.add_zero, Bool.not_true, Bool.not_false]
      refine ldn_r r1 (show 2 + 3 ≤ 5 by decide) ?_
      show s77_p3 K (.agg #[I a.q0, I a.q1, I a.q2]) (I 0) w1
      unfold s77_p3
      simp only [Bool.true_and] at hK
      have key : ∀ (i : Nat) (q : Int), i < 3 → (#[I a.q0, I a.q1, I a.q2] : Array Value)[((i : Nat) : Int).toNat]? = some (I q) → (inR q 0 1073741824 = false → (inR a.q0 0 1073741824 && inR a.q1 0 1073741824 && inR a.q2 0 1073741824) = false) →
          ∀ B1 : List Value → World → Prop, (inR q 0 1073741824 = true → B1 [.agg #[I a.q0, I a.q1, I a.q2], I ((i + 1 : Nat) : Int)] w1) → s77_p2 K B1 (.agg #[I a.q0, I a.q1, I a.q2]) (I (i : Nat)) w1 := by
        intro i q hi hq hf B1 hB
        unfold s77_p2
        have e1 : ((i : Nat) : Int) < 3 := by omega
        simp only [e1, decide_true, e_fd, e_nck, e_pkt, e_pkf, e_gdtt, e_gdtf, e_gdft, e_gdff, e_ift, e_iff, e_not, e_ln, e_lnT, e_cp, e_cvi, e_ex20, e_ex21, e_ex30, e_ex31, e_ex32, e_add, e_sub, e_mul, e_quo, e_rem, e_and, e_or, e_xor, e_shl, e_shr, e_eql, e_neq, e_lss, e_leq, e_gtr, e_geq, e_beq, e_bne, e_peq1, e_peq2, e_pne1, e_pne2, e_zeq1, e_zeq2, e_zne1, e_zne2, e_feq1, e_fne1, e_feq2, e_fne2, e_seq, e_sne, e_ta1, e_ta2, Nat.zero_add, Nat.add_zero, Bool.not_true, Bool.not_false]
        refine iv_r ivq (by omega) (by omega) hq ?_
        refine inRange_ok ?_
        cases h3 : inR q 0 1073741824 with
        | false =>
          simp only [Bool.not_false, e_fd, e_nck, e_pkt, e_pkf, e_gdtt, e_gdtf, e_gdft, e_gdff, e_ift, e_iff, e_not, e_ln, e_lnT, e_cp, e_cvi, e_ex20, e_ex21, e_ex30, e_ex31, e_ex32, e_add, e_sub, e_mul, e_quo, e_rem, e_and, e_or, e_xor, e_shl, e_shr, e_eql, e_neq, e_lss, e_leq, e_gtr, e_geq, e_beq, e_bne, e_peq1, e_peq2, e_pne1, e_pne2, e_zeq1, e_zeq2, e_zne1, e_zne2, e_feq1, e_fne1, e_feq2, e_fne2, e_seq, e_sne, e_ta1, e_ta2, Nat.zero_add, Nat.add_zero, Bool.not_true, Bool.not_false]
          rw [hf h3] at hK
          exact hK
        | true =>
          simp only [Bool.not_true, e_fd, e_nck, e_pkt, e_pkf, e_gdtt, e_gdtf, e_gdft, e_gdff, e_ift, e_iff, e_not, e_ln, e_lnT, e_cp, e_cvi, e_ex20, e_ex21, e_ex30, e_ex31, e_ex32, e_add, e_sub, e_mul, e_quo, e_rem, e_and, e_or, e_xor, e_shl, e_shr, e_eql, e_neq, e_lss, e_leq, e_gtr, e_geq, e_beq, e_bne, e_peq1, e_peq2, e_pne1, e_pne2, e_zeq1, e_zeq2, e_zne1, e_zne2, e_feq1, e_fne1, e_feq2, e_fne2, e_seq, e_sne, e_ta1, e_ta2, Nat.zero_add, Nat.add_zero, Bool.not_true, Bool.not_false]
          rw [wrap64_id (by omega) (by omega)]
          exact hB h3
      refine ⟨fun n l w' => w' = w1 ∧ ((n = 3 ∧ l = [.agg #[I a.q0, I a.q1, I a.q2], I 0]) ∨ (n = 2 ∧ l = [.agg #[I a.q0, I a.q1, I a.q2], I 1] ∧ inR a.q0 0 1073741824 = true) ∨ (n = 1 ∧ l = [.agg #[I a.q0, I a.q1, I a.q2], I 2] ∧ inR a.q0 0 1073741824 = true ∧ inR a.q1 0 1073741824 = true) ∨ (n = 0 ∧ l = [.agg #[I a.q0, I a.q1, I a.q2], I 3] ∧ inR a.q0 0 1073741824 = true ∧ inR a.q1 0 1073741824 = true ∧ inR a.q2 0 1073741824 = true)), 3, ⟨rfl, .inl ⟨rfl, rfl⟩⟩, ?_⟩
      rintro n l w' ⟨rfl, h⟩
      rcases h with ⟨rfl, rfl⟩ | ⟨rfl, rfl, a0⟩ | ⟨rfl, rfl, a0, a1⟩ | ⟨rfl, rfl, a0, a1, a2⟩
      · rw [s77_p3_Fe]
        refine key 0 a.q0 (by decide) rfl (fun e => by rw [e]; rfl) _ fun e => ⟨2, by decide, rfl, .inr (.inl ⟨rfl, rfl, e⟩)⟩
      · rw [s77_p3_Fe]
        refine key 1 a.q1 (by decide) rfl (fun e => by rw [e, a0]; rfl) _ fun e => ⟨1, by decide, rfl, .inr (.inr (.inl ⟨rfl, rfl, a0, e⟩))⟩
      · rw [s77_p3_Fe]
        refine key 2 a.q2 (by decide) rfl (fun e => by rw [e, a0, a1]; rfl) _ fun e => ⟨0, by decide, rfl, .inr (.inr (.inr ⟨rfl, rfl, a0, a1, e⟩))⟩
      · rw [s77_p3_Fe]
        unfold s77_p2
        have e1 : ¬ (3 : Int) < 3 := by decide
        simp only [e1, decide_false, e_fd, e_nck, e_pkt, e_pkf, e_gdtt, e_gdtf, e_gdft, e_gdff, e_ift, e_iff, e_not, e_ln, e_lnT, e_cp, e_cvi, e_ex20, e_ex21, e_ex30, e_ex31, e_ex32, e_add, e_sub, e_mul, e_quo, e_rem, e_and, e_or, e_xor, e_shl, e_shr, e_eql, e_neq, e_lss, e_leq, e_gtr, e_geq, e_beq, e_bne, e_peq1, e_peq2, e_pne1, e_pne2, e_zeq1, e_zeq2, e_zne1, e_zne2, e_feq1, e_fne1, e_feq2, e_fne2, e_seq, e_sne, e_ta1, e_ta2, Nat.zero_add, Nat.add_zero, Bool.not_true, Bool.not_false]
        unfold s77_p1
        rw [a0, a1, a2] at hK
        exact hK
end
end Go.Proofs.Qxb6500896aGreatDoor
