import Derived.Test.Qxb6500896aGreatN9
import Derived.Test.Qxb6500896aGreatGm
namespace Go.Proofs.Qxb6500896aGreat
open Go.Sh Go.RowKit
set_option linter.unusedVariables false
set_option linter.unusedSimpArgs false

section
variable {C : Cfg} {σ : Sg} {J : Jr} {q : Rq} {bs : List Int}
theorem setS_ss0 (h : σ.loose = 0) (hd : σ.down = false) : (setS C σ J).1.ss = σ.ss := by
  unfold setS
  rw [if_neg (by rw [hd]; decide), if_pos h]
/-- no snapshot but for a change -/
theorem stb_ss (h : ¬ ((dec bs).2 = 0 ∧ isC (dec bs).1.op = true)) (hd : σ.down = false) : (stbS C bs σ J).1.ss = σ.ss ∧ (stbS C bs σ J).1.loose = σ.loose ∧ (stbS C bs σ J).1.down = false := by
  have hr := fun c (s : Sg) => refS_o c s
  unfold stbS
  rw [if_neg (by rw [hd]; decide)]
  by_cases c1 : (dec bs).2 = 0
  · rw [if_pos c1]
    have hN := dec_x c1
    unfold stgS
    simp only
    rw [if_neg (by rw [hd]; decide)]
    by_cases c2 : xpr (dec bs).1 = false
    · rw [if_pos c2]
      exact ⟨(hr _ _).2.2.2, (hr _ _).2.2.1, by rw [(hr _ _).1]; exact hd⟩
    · rw [if_neg c2]
      by_cases c3 : valid C σ.now (dec bs).1 = 0
      · rw [if_pos c3]
        by_cases c4 : isQ (dec bs).1.op = true
        · rw [if_pos c4]
          show (ansS C (dec bs).1 { σ with sr := w1 σ.sr }).1.ss = σ.ss ∧ (ansS C (dec bs).1 { σ with sr := w1 σ.sr }).1.loose = σ.loose ∧ (ansS C (dec bs).1 { σ with sr := w1 σ.sr }).1.down = false
          unfold ansS
          split
          · exact ⟨rfl, rfl, hd⟩
          · exact ⟨(hr _ _).2.2.2, (hr _ _).2.2.1, by rw [(hr _ _).1]; exact hd⟩
        · exfalso
          refine h ⟨c1, ?_⟩
          have := hN.op
          unfold isQ at c4
          unfold isC
          simp only [Bool.and_eq_true, decide_eq_true_eq] at c4 ⊢
          omega
      · rw [if_neg c3]
        exact ⟨(hr _ _).2.2.2, (hr _ _).2.2.1, by rw [(hr _ _).1]; exact hd⟩
  · rw [if_neg c1]
    exact ⟨(hr _ _).2.2.2, (hr _ _).2.2.1, by rw [(hr _ _).1]; exact hd⟩
/-- no snapshot where there is room and the turn is not yet -/
theorem chg_ss (h : RgI C σ J) (hN : XprN q) (hlo : σ.loose = 0) (hr : (((ent (σ.seq + 1) q).length : Nat) : Int) ≤ roomR J) : (chgS C q σ J).1.ss = σ.ss ∧ (chgS C q σ J).1.down = false ∧ (((chgS C q σ J).1.loose = 0) ∨ ((chgS C q σ J).1.tail = σ.tail + 1 ∧ (chgS C q σ J).2.1.off = false ∧ (chgS C q σ J).2.1.left = 0)) := by
  have ho := fun c (s : Sg) => refS_o c s
  have hk := apS_keep C q { σ with ent := ent (σ.seq + 1) q }
  have ha := apS_o C q { σ with ent := ent (σ.seq + 1) q }
  unfold chgS
  simp only
  have e1 : roomS C { σ with ent := ent (σ.seq + 1) q } J (((ent (σ.seq + 1) q).length : Nat) : Int) = ({ σ with ent := ent (σ.seq + 1) q }, J, 0) := by
    unfold roomS
    rw [if_pos hr]
  rw [e1]
  simp only [if_true]
  by_cases c1 : (apS C q { σ with ent := ent (σ.seq + 1) q }).2.code = 0
  · rw [if_pos c1]
    unfold wrtS
    rw [appJ0 h.off h.lf hr (ent_len hN.ll).1, if_pos rfl, if_pos rfl]
    refine ⟨ha.2.1, by show (apS C q { σ with ent := ent (σ.seq + 1) q }).1.down = false; rw [ha.1]; exact h.dn, .inr ⟨?_, h.off, h.lf⟩⟩
    show (apS C q { σ with ent := ent (σ.seq + 1) q }).1.tail + 1 = _
    rw [hk.2.2.1]
  · rw [if_neg c1, apS_no c1]
    exact ⟨(ho _ _).2.2.2, by rw [(ho _ _).1]; exact h.dn, .inl (by rw [(ho _ _).2.2.1]; exact hlo)⟩
theorem hnd_ss (h : RgI C σ J) (hB : By bs) (hlo : σ.loose = 0) (hne : (hndS C bs σ J).1.ss ≠ σ.ss) :
    (dec bs).2 = 0 ∧ isC (dec bs).1.op = true ∧ ¬ (((J.log.length : Nat) : Int) + 1 < C.se ∧ ((bs.length + (uI (σ.seq + 1)).length : Nat) : Int) ≤ roomR J) := by
  by_cases c0 : (dec bs).2 = 0 ∧ isC (dec bs).1.op = true
  · refine ⟨c0.1, c0.2, fun ⟨h1, h2⟩ => hne ?_⟩
    have hN := dec_x c0.1
    have hr := fun c (s : Sg) => refS_o c s
    have hlen : (ent (σ.seq + 1) (dec bs).1).length = bs.length + (uI (σ.seq + 1)).length := by
      unfold ent
      rw [List.length_append, enc_dec hB c0.1]
      omega
    have key : (stbS C bs σ J).1.ss = σ.ss ∧ (stbS C bs σ J).1.down = false ∧ ((stbS C bs σ J).1.loose = 0 ∨ ((stbS C bs σ J).1.tail = σ.tail + 1 ∧ (stbS C bs σ J).2.1.off = false ∧ (stbS C bs σ J).2.1.left = 0)) := by
      unfold stbS
      rw [if_neg (by rw [h.dn]; decide), if_pos c0.1]
      unfold stgS
      simp only
      rw [if_neg (by rw [h.dn]; decide), if_neg (by rw [hN.x]; decide)]
      by_cases c3 : valid C σ.now (dec bs).1 = 0
      · rw [if_pos c3, if_neg]
        · have h1' : RgI C { σ with sr := w1 σ.sr } J := h.same ⟨rfl, rfl, rfl, rfl⟩ rfl rfl rfl
          exact chg_ss h1' hN hlo (by show (((ent (σ.seq + 1) (dec bs).1).length : Nat) : Int) ≤ _; rw [hlen]; exact h2)
        · have := c0.2
          unfold isC at this
          unfold isQ
          simp only [Bool.and_eq_true, decide_eq_true_eq] at this ⊢
          omega
      · rw [if_neg c3]
        exact ⟨(hr _ _).2.2.2, by rw [(hr _ _).1]; exact h.dn, .inl (by rw [(hr _ _).2.2.1]; exact hlo)⟩
    unfold hndS
    show (setS C (stbS C bs σ J).1 (stbS C bs σ J).2.1).1.ss = σ.ss
    obtain ⟨k1, k2, k3⟩ := key
    rcases k3 with k3 | ⟨k3, k4, k5⟩
    · rw [setS_ss0 k3 k2, k1]
    · unfold setS
      rw [if_neg (by rw [k2]; decide)]
      by_cases c5 : (stbS C bs σ J).1.loose = 0
      · rw [if_pos c5, k1]
      · rw [if_neg c5, comJ0 k4 k5, if_pos rfl]
        unfold aftS
        rw [if_pos (show (stbS C bs σ J).1.tail < C.se by rw [k3, h.tl]; exact h1)]
        exact k1
  · exfalso
    obtain ⟨k1, k2, k3⟩ := stb_ss (C := C) (J := J) c0 h.dn
    refine hne ?_
    unfold hndS
    show (setS C (stbS C bs σ J).1 (stbS C bs σ J).2.1).1.ss = σ.ss
    rw [setS_ss0 (by rw [k2]; exact hlo) k3, k1]
end
set_option maxRecDepth 100000 in
theorem fiStat3 : fiK Tryz.prog 102 3 = some 3 := by kernel_rfl
set_option maxRecDepth 100000 in
theorem fiCfg13 : fiK Tryz.prog 34 13 = some 13 := by kernel_rfl
section
variable {W w w' w1 : World} {V F M : Nat → Prop} {r e j n : Nat} {σ : Sg} {J : Jr} {K : Value → World → Prop} {v : Value} {lob : Option Nat} {xs : List Op} {m : Me} {C : Cfg}
/-- the counters' cells -/
def Sg.sts (σ : Sg) : List Value := [I σ.sr, I σ.sq, I σ.sg, I σ.ss, I σ.sp, .bool σ.res] ++ σ.rf.map I
theorem stats_ok (h : En M w e m C σ J) (hK : ∀ w', Kp Emp w w' → K (.agg σ.sts.toArray) w') : cl Tryz.prog 49 #[P e 0] K w := by
  have hrf := h.rf
  obtain ⟨va, vt, env, r, _⟩ := h.ex
  apply c49
  unfold s49_p1
  refine nw_r fun w1 r1 hk1 hz1 => ?_
  try simp only [e_fd, e_nck, e_pkt, e_pkf, e_gdtt, e_gdtf, e_gdft, e_gdff, e_ift, e_iff, e_not, e_ln, e_lnT, e_cp, e_cvi, e_ex20, e_ex21, e_ex30, e_ex31, e_ex32, e_add, e_sub, e_mul, e_quo, e_rem, e_and, e_or, e_xor, e_shl, e_shr, e_eql, e_neq, e_lss, e_leq, e_gtr, e_geq, e_beq, e_bne, e_peq1, e_peq2, e_pne1, e_pne2, e_zeq1, e_zeq2, e_zne1, e_zne2, e_feq1, e_fne1, e_feq2, e_fne2, e_seq, e_sne, e_ta1, e_ta2, Nat.zero_add, Nat.add_zero, Bool.not_true, Bool.not_false]
  have e1 : ((C.cells va vt ++ σ.cells m env).drop 22).take 29 = σ.sts := by
    have e0 : (C.cells va vt ++ σ.cells m env).drop 22 = σ.sts ++ [env] := by
      unfold Sg.sts Sg.cells
      rw [← List.append_assoc]
      rfl
    rw [e0, List.take_append_of_le_length (by unfold Sg.sts; simp; omega), List.take_of_length_le (by unfold Sg.sts; simp; omega)]
  have hl : σ.sts.length = 29 := by unfold Sg.sts; simp; omega
  refine ldn_r (hk1.row' r) (by rw [en_len hrf]; decide) ?_
  rw [e1]
  refine stn_r (cs := σ.sts) r1 hl (show 0 + 29 ≤ 29 by decide) (by unfold Sg.sts; rw [List.all_append]; simp [scal, List.all_map]) fun w2 r2 hk2 hz2 => ?_
  rw [List.take_zero, List.nil_append, Nat.zero_add, List.drop_of_length_le (by decide), List.append_nil] at r2
  refine ldn_r r2 (by omega) ?_
  rw [List.drop_zero, List.take_of_length_le (by omega)]
  exact hK w2 (hk1.then hk2 fun k hk (q : k = _) => by omega)
theorem logged_ok (h : En M w e m C σ J) (hK : K (I σ.seq) w) : cl Tryz.prog 50 #[P e 0] K w := by
  obtain ⟨va, vt, env, r, _⟩ := h.ex
  apply c50
  unfold s50_p1
  try simp only [e_fd, e_nck, e_pkt, e_pkf, e_gdtt, e_gdtf, e_gdft, e_gdff, e_ift, e_iff, e_not, e_ln, e_lnT, e_cp, e_cvi, e_ex20, e_ex21, e_ex30, e_ex31, e_ex32, e_add, e_sub, e_mul, e_quo, e_rem, e_and, e_or, e_xor, e_shl, e_shr, e_eql, e_neq, e_lss, e_leq, e_gtr, e_geq, e_beq, e_bne, e_peq1, e_peq2, e_pne1, e_pne2, e_zeq1, e_zeq2, e_zne1, e_zne2, e_feq1, e_fne1, e_feq2, e_fne2, e_seq, e_sne, e_ta1, e_ta2, Nat.zero_add, Nat.add_zero, Bool.not_true, Bool.not_false]
  exact ld1_r r rfl hK
end
end Go.Proofs.Qxb6500896aGreat
