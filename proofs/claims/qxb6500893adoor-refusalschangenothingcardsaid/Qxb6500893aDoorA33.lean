import Derived.Test.Qxb6500893aDoorA32
namespace Go.Proofs.Qxb6500893aDoor
open Go.Sh Go.RowKit
set_option linter.unusedVariables false
set_option linter.unusedSimpArgs false

section
variable {W w w' w0 : World} {m m' m0 : Wm} {s s' : Ws} {M M' M0 : Md} {b t4 t6 kk nb : Nat} {c : Call} {K : Value → World → Prop} {F : Nat → List Nat}
theorem Mt.fits (h : Mt s.A.ws s.T F M) : ∀ i (hi : i < s.T.ps.length) (hm : i < M.ps.length), M.ps[i].bw = s.T.ps[i].bw ∧ M.ps[i].n = s.T.ps[i].n := fun i hi hm => ⟨(h.at_ i hi hm).bw, (h.at_ i hi hm).n⟩
/-- the model's free, for a pool that is there -/
theorem mfree_mc {i : Nat} {k : Value → World → Prop} {A1 : Ar} {l6 : List Value} {s2 : Ws} (R : Mc W w0 m0 M0 s2 c t4 t6 l6 w m M) (ok : s.T.Ok) (hI : PInv s.A.ws s.T s.L F) (hmt : Mt s.A.ws s.T F M) (hi : i < s.T.ps.length) (ha : c.at_ < 4294967296)
    (hE : (∀ j, j < s.T.ps[i].n → c.at_ = s.T.ps[i].bk j → j ∈ F i) → ∀ w', Mc W w0 m0 M0 s2 c t4 t6 l6 w' m M → k (I (frC s.T.ps[i] c.at_)) w')
    (hO : ∀ j, j < s.T.ps[i].n → j ∉ F i → c.at_ = s.T.ps[i].bk j → ∀ w' M', Mc W w0 m0 M0 s2 c t4 t6 l6 w' m M' → (∀ A1 : Ar, A1.ws = s.A.ws → Mt (freeF A1 s.T.ps[i] (s.T.ps[i].bk j)).2.ws s.T (upd F i (j :: F i)) M') → k (I 0) w') :
    cl Tryd.prog 43 #[P M.mb 0, I (i : Nat), I ((c.at_ : Int) - (s.T.ps[i].fst : Int))] k w := by
  have him : i < M.ps.length := by rw [hmt.len]; exact hi
  have hq := hmt.at_ i hi him
  have hok := (ok.sh _ (List.getElem_mem hi)).1
  have hP := hI.pool i hi
  refine mfree_has R.lm.mt him hok hq.bw hq.n ha (fun hno w1 hk1 => ?_) (fun j hj hat hju w1 hM1 hk1 => ?_)
  · refine hE (fun j hj hat => ?_) w1 (R.kp' hk1)
    exact Decidable.not_not.1 (fun q => hno j hj hat ((hq.iff hj).2 q))
  · have hn := (hq.iff hj).1 hju
    refine hO j hj hn hat w1 _ (R.set him hM1 hk1 (fun b q => .inr q) rfl rfl) (fun A1 ew => ?_)
    rw [← ew] at hP
    obtain ⟨_, _, hout, e4, e3, _⟩ := PoolOk.free (A := A1) hok hP hj hn
    have hb := bk_in hok (t := 0) hj (by have := hok.bw1; omega)
    have hfst := fst_ge hok
    rw [ew] at e4 e3 hP
    refine hmt.set ok hi him (hq.free hP hj hn e4 e3) (fun a ha => ?_)
    rw [hout a (by omega) (by omega), ew]

theorem mod_free (R : Mc W w0 m0 M0 (realF kk nb s c) c t4 t6 (outV 0 (-1) 0 q0 0 nilS) w m M) (k3 : c.kind = 3) (ok : s.T.Ok) (hco : CallOk s c) (hI : PInv s.A.ws s.T s.L F) (hmt : Mt s.A.ws s.T F M)
    (fin : MFin W w0 m0 M0 (realF kk nb s c) (midF kk (s00 s) c) c t4 t6 K) : s15_p11 K (P m0.wdb 0) (P t4 0) (P t6 0) w := by
  unfold s15_p11
  have R := R.kp' (w' := drw w) kp_drw
  generalize drw w = w at R ⊢
  refine ⟨fun w' => Row w' m0.wdb 50 [P m.ab 0, P m.tb 0, P M.mb 0, m.lv] ∧ Row w' t4 33 (cac c), ⟨R.row, R.r4⟩, ?_⟩
  unfold s15_p11_d
  try simp only [e_fd, e_nck, e_pkt, e_pkf, e_gdtt, e_gdtf, e_gdft, e_gdff, e_ift, e_iff, e_not, e_ln, e_lnT, e_cp, e_cvi, e_ex20, e_ex21, e_ex30, e_ex31, e_ex32, e_add, e_sub, e_mul, e_quo, e_rem, e_and, e_or, e_xor, e_shl, e_shr, e_eql, e_neq, e_lss, e_leq, e_gtr, e_geq, e_beq, e_bne, e_peq1, e_peq2, e_pne1, e_pne2, e_zeq1, e_zeq2, e_zne1, e_zne2, e_feq1, e_fne1, e_feq2, e_fne2, e_seq, e_sne, e_ta1, e_ta2, Nat.zero_add, Nat.add_zero, Bool.not_true, Bool.not_false]
  refine ⟨P M.mb 0, fun w' hJ => ld1_r hJ.1 rfl ⟨rfl, rfl⟩, ?_⟩
  refine ⟨I c.pool, fun w' hJ => ld1_r hJ.2 rfl ⟨rfl, rfl⟩, ?_⟩
  refine ⟨I c.pool, fun w' hJ => ld1_r hJ.2 rfl ⟨rfl, rfl⟩, ?_⟩
  refine ⟨U32 c.at_, fun w' hJ => ld1_r hJ.2 rfl ⟨rfl, rfl⟩, ?_⟩
  rw [← R.wdb]
  refine offset_ok R.lm.st hco.at_ fun w1 hk1 => ?_
  rw [R.wdb]
  have R1 := R.kp' hk1
  refine ⟨⟨R1.row, R1.r4⟩, ?_⟩
  rcases step3 (s := s) (kk := kk) (nb := nb) ok k3 hI with ⟨hn, em, er⟩ | ⟨i, hi, hid, hno, A', ew, es, em, er⟩ | ⟨i, hi, j, A1, hid, hj, hnj, hat, ew, es, em, er⟩
  · rw [em, er] at fin
    rw [er] at R1 ⊢
    have hno : ¬ (0 ≤ c.pool ∧ c.pool < M.ps.length) := by rw [hmt.len]; exact hn
    refine mfree_no R1.lm.mt hno ?_
    refine R1.code fun w2 R2 => ?_
    exact fin w2 m M F R2 hI hmt
  · rw [em, er] at fin
    rw [er] at R1 ⊢
    have epl : pl s.T c.pool = some s.T.ps[i] := by rw [hid]; exact pl_some hi
    simp only [epl]
    rw [hid]
    refine mfree_mc (s := s) (A1 := A') R1 ok hI hmt hi hco.at_ (fun _ w2 R2 => ?_) (fun j hj hn hat => absurd (hno j hj hat) hn)
    refine R2.code fun w3 R3 => ?_
    refine fin w3 m M F R3 ?_ ?_
    · show PInv A'.ws s.T s.L F
      rw [ew]; exact hI
    · show Mt A'.ws s.T F M
      rw [ew]; exact hmt
  · rw [em, er] at fin
    rw [er] at R1 ⊢
    have epl : pl s.T c.pool = some s.T.ps[i] := by rw [hid]; exact pl_some hi
    simp only [epl]
    rw [hid]
    refine mfree_mc (s := s) (A1 := A1) R1 ok hI hmt hi hco.at_ (fun hno => absurd (hno j hj hat) hnj) (fun j' hj' hn' hat' w2 M2 R2 hmt2 => ?_)
    have hb1 := (ok.sh _ (List.getElem_mem hi)).1.bw1
    obtain rfl : j' = j := bk_inj (ok.sh _ (List.getElem_mem hi)).1 (t := 0) (u := 0) (by omega) (by omega) (by omega)
    refine R2.code fun w3 R3 => ?_
    refine fin w3 m M2 _ R3 ?_ (hmt2 A1 ew)
    rw [← ew] at hI
    exact PInv.free (A := A1) ok hI hi hj hnj

theorem mod_rel (R : Mc W w0 m0 M0 (realF kk nb s c) c t4 t6 (outV 0 (-1) 0 q0 0 nilS) w m M) (k4 : c.kind = 4) (ok : s.T.Ok) (hco : CallOk s c) (hI : PInv s.A.ws s.T s.L F) (hmt : Mt s.A.ws s.T F M)
    (fin : MFin W w0 m0 M0 (realF kk nb s c) (midF kk (s00 s) c) c t4 t6 K) : s15_p14 K (P m0.wdb 0) (P t4 0) (P t6 0) w := by
  unfold s15_p14
  try simp only [e_fd, e_nck, e_pkt, e_pkf, e_gdtt, e_gdtf, e_gdft, e_gdff, e_ift, e_iff, e_not, e_ln, e_lnT, e_cp, e_cvi, e_ex20, e_ex21, e_ex30, e_ex31, e_ex32, e_add, e_sub, e_mul, e_quo, e_rem, e_and, e_or, e_xor, e_shl, e_shr, e_eql, e_neq, e_lss, e_leq, e_gtr, e_geq, e_beq, e_bne, e_peq1, e_peq2, e_pne1, e_pne2, e_zeq1, e_zeq2, e_zne1, e_zne2, e_feq1, e_fne1, e_feq2, e_fne2, e_seq, e_sne, e_ta1, e_ta2, Nat.zero_add, Nat.add_zero, Bool.not_true, Bool.not_false]
  refine R.code fun w1 R1 => ?_
  try simp only [e_fd, e_nck, e_pkt, e_pkf, e_gdtt, e_gdtf, e_gdft, e_gdff, e_ift, e_iff, e_not, e_ln, e_lnT, e_cp, e_cvi, e_ex20, e_ex21, e_ex30, e_ex31, e_ex32, e_add, e_sub, e_mul, e_quo, e_rem, e_and, e_or, e_xor, e_shl, e_shr, e_eql, e_neq, e_lss, e_leq, e_gtr, e_geq, e_beq, e_bne, e_peq1, e_peq2, e_pne1, e_pne2, e_zeq1, e_zeq2, e_zne1, e_zne2, e_feq1, e_fne1, e_feq2, e_fne2, e_seq, e_sne, e_ta1, e_ta2, Nat.zero_add, Nat.add_zero, Bool.not_true, Bool.not_false]
  refine ld1_r R1.r4 rfl ?_
  have hin : ∀ {i : Nat} (hi : i < s.T.ps.length), inP s.T.ps[i] c.at_ → ownV s.T c.at_ = (i : Int) := fun hi h => by unfold ownV; rw [ownI_some ok hi h]
  rcases step4 (s := s) (kk := kk) (nb := nb) ok k4 hI with ⟨hn, em, er⟩ | ⟨i, hi, hp, hno, A', ew, es, em, er⟩ | ⟨i, hi, j, A1, hp, hj, hnj, hat, ew, es, em, er⟩
  · rw [em, er] at fin
    rw [er] at R1
    rw [← R1.wdb]
    refine wowner_ok R1.lm.st R1.lm.mt R1.lm.md hmt.len hmt.fits hco.at_ fun w2 hk2 => ?_
    rw [R1.wdb]
    have e : ownV s.T c.at_ = -1 := by unfold ownV; rw [ownI_none hn]
    have e' : ownV ({ s with A := A0 (tk (A0 s.A) kk) } : Ws).T c.at_ = -1 := e
    rw [e']
    unfold s15_p13
    simp only [show ((-1 : Int) != -1) = false from rfl, e_fd, e_nck, e_pkt, e_pkf, e_gdtt, e_gdtf, e_gdft, e_gdff, e_ift, e_iff, e_not, e_ln, e_lnT, e_cp, e_cvi, e_ex20, e_ex21, e_ex30, e_ex31, e_ex32, e_add, e_sub, e_mul, e_quo, e_rem, e_and, e_or, e_xor, e_shl, e_shr, e_eql, e_neq, e_lss, e_leq, e_gtr, e_geq, e_beq, e_bne, e_peq1, e_peq2, e_pne1, e_pne2, e_zeq1, e_zeq2, e_zne1, e_zne2, e_feq1, e_fne1, e_feq2, e_fne2, e_seq, e_sne, e_ta1, e_ta2, Nat.zero_add, Nat.add_zero, Bool.not_true, Bool.not_false]
    exact fin w2 m M F (R1.kp' hk2) hI hmt
  · rw [em, er] at fin
    rw [er] at R1
    rw [← R1.wdb]
    refine wowner_ok R1.lm.st R1.lm.mt R1.lm.md hmt.len hmt.fits hco.at_ fun w2 hk2 => ?_
    rw [R1.wdb]
    have e' : ownV ({ s with A := A0 A' } : Ws).T c.at_ = (i : Int) := hin hi hp
    rw [e']
    unfold s15_p13
    have en : (((i : Nat) : Int) != -1) = true := by rw [bne_iff_ne]; omega
    simp only [en, e_fd, e_nck, e_pkt, e_pkf, e_gdtt, e_gdtf, e_gdft, e_gdff, e_ift, e_iff, e_not, e_ln, e_lnT, e_cp, e_cvi, e_ex20, e_ex21, e_ex30, e_ex31, e_ex32, e_add, e_sub, e_mul, e_quo, e_rem, e_and, e_or, e_xor, e_shl, e_shr, e_eql, e_neq, e_lss, e_leq, e_gtr, e_geq, e_beq, e_bne, e_peq1, e_peq2, e_pne1, e_pne2, e_zeq1, e_zeq2, e_zne1, e_zne2, e_feq1, e_fne1, e_feq2, e_fne2, e_seq, e_sne, e_ta1, e_ta2, Nat.zero_add, Nat.add_zero, Bool.not_true, Bool.not_false]
    unfold s15_p12
    have R2 := (R1.kp' hk2).kp' (w' := drw w2) kp_drw
    generalize drw w2 = w2 at R2 ⊢
    refine ⟨fun w' => Row w' m0.wdb 50 [P m.ab 0, P m.tb 0, P M.mb 0, m.lv] ∧ Row w' t4 33 (cac c), ⟨R2.row, R2.r4⟩, ?_⟩
    unfold s15_p12_d
    try simp only [e_fd, e_nck, e_pkt, e_pkf, e_gdtt, e_gdtf, e_gdft, e_gdff, e_ift, e_iff, e_not, e_ln, e_lnT, e_cp, e_cvi, e_ex20, e_ex21, e_ex30, e_ex31, e_ex32, e_add, e_sub, e_mul, e_quo, e_rem, e_and, e_or, e_xor, e_shl, e_shr, e_eql, e_neq, e_lss, e_leq, e_gtr, e_geq, e_beq, e_bne, e_peq1, e_peq2, e_pne1, e_pne2, e_zeq1, e_zeq2, e_zne1, e_zne2, e_feq1, e_fne1, e_feq2, e_fne2, e_seq, e_sne, e_ta1, e_ta2, Nat.zero_add, Nat.add_zero, Bool.not_true, Bool.not_false]
    refine ⟨P M.mb 0, fun w' hJ => ld1_r hJ.1 rfl ⟨rfl, rfl⟩, ?_⟩
    refine ⟨U32 c.at_, fun w' hJ => ld1_r hJ.2 rfl ⟨rfl, rfl⟩, ?_⟩
    rw [← R.wdb]
    refine offset_ok R2.lm.st hco.at_ fun w3 hk3 => ?_
    have R3 := R2.kp' hk3
    refine ⟨⟨by rw [R.wdb]; exact R3.row, R3.r4⟩, ?_⟩
    have epl : pl s.T (i : Nat) = some s.T.ps[i] := pl_some hi
    simp only [epl]
    refine mfree_mc (s := s) (A1 := A') R3 ok hI hmt hi hco.at_ (fun _ w4 R4 => ?_) (fun j hj hn hat => absurd (hno j hj hat) hn)
    refine R4.code fun w5 R5 => ?_
    refine fin w5 m M F R5 ?_ ?_
    · show PInv A'.ws s.T s.L F
      rw [ew]; exact hI
    · show Mt A'.ws s.T F M
      rw [ew]; exact hmt
  · rw [em, er] at fin
    rw [er] at R1
    rw [← R1.wdb]
    refine wowner_ok R1.lm.st R1.lm.mt R1.lm.md hmt.len hmt.fits hco.at_ fun w2 hk2 => ?_
    rw [R1.wdb]
    have e' : ∀ A2 L2, ownV (⟨A2, s.T, L2⟩ : Ws).T c.at_ = (i : Int) := fun _ _ => hin hi hp
    rw [e']
    unfold s15_p13
    have en : (((i : Nat) : Int) != -1) = true := by rw [bne_iff_ne]; omega
    simp only [en, e_fd, e_nck, e_pkt, e_pkf, e_gdtt, e_gdtf, e_gdft, e_gdff, e_ift, e_iff, e_not, e_ln, e_lnT, e_cp, e_cvi, e_ex20, e_ex21, e_ex30, e_ex31, e_ex32, e_add, e_sub, e_mul, e_quo, e_rem, e_and, e_or, e_xor, e_shl, e_shr, e_eql, e_neq, e_lss, e_leq, e_gtr, e_geq, e_beq, e_bne, e_peq1, e_peq2, e_pne1, e_pne2, e_zeq1, e_zeq2, e_zne1, e_zne2, e_feq1, e_fne1, e_feq2, e_fne2, e_seq, e_sne, e_ta1, e_ta2, Nat.zero_add, Nat.add_zero, Bool.not_true, Bool.not_false]
    unfold s15_p12
    have R2 := (R1.kp' hk2).kp' (w' := drw w2) kp_drw
    generalize drw w2 = w2 at R2 ⊢
    refine ⟨fun w' => Row w' m0.wdb 50 [P m.ab 0, P m.tb 0, P M.mb 0, m.lv] ∧ Row w' t4 33 (cac c), ⟨R2.row, R2.r4⟩, ?_⟩
    unfold s15_p12_d
    try simp only [e_fd, e_nck, e_pkt, e_pkf, e_gdtt, e_gdtf, e_gdft, e_gdff, e_ift, e_iff, e_not, e_ln, e_lnT, e_cp, e_cvi, e_ex20, e_ex21, e_ex30, e_ex31, e_ex32, e_add, e_sub, e_mul, e_quo, e_rem, e_and, e_or, e_xor, e_shl, e_shr, e_eql, e_neq, e_lss, e_leq, e_gtr, e_geq, e_beq, e_bne, e_peq1, e_peq2, e_pne1, e_pne2, e_zeq1, e_zeq2, e_zne1, e_zne2, e_feq1, e_fne1, e_feq2, e_fne2, e_seq, e_sne, e_ta1, e_ta2, Nat.zero_add, Nat.add_zero, Bool.not_true, Bool.not_false]
    refine ⟨P M.mb 0, fun w' hJ => ld1_r hJ.1 rfl ⟨rfl, rfl⟩, ?_⟩
    refine ⟨U32 c.at_, fun w' hJ => ld1_r hJ.2 rfl ⟨rfl, rfl⟩, ?_⟩
    rw [← R.wdb]
    refine offset_ok R2.lm.st hco.at_ fun w3 hk3 => ?_
    have R3 := R2.kp' hk3
    refine ⟨⟨by rw [R.wdb]; exact R3.row, R3.r4⟩, ?_⟩
    have epl : pl s.T (i : Nat) = some s.T.ps[i] := pl_some hi
    simp only [epl]
    refine mfree_mc (s := s) (A1 := A1) R3 ok hI hmt hi hco.at_ (fun hno => absurd (hno j hj hat) hnj) (fun j' hj' hn' hat' w4 M4 R4 hmt4 => ?_)
    have hb1 := (ok.sh _ (List.getElem_mem hi)).1.bw1
    obtain rfl : j' = j := bk_inj (ok.sh _ (List.getElem_mem hi)).1 (t := 0) (u := 0) (by omega) (by omega) (by omega)
    refine R4.code fun w5 R5 => ?_
    refine fin w5 m M4 _ R5 ?_ (hmt4 A1 ew)
    rw [← ew] at hI
    exact PInv.free (A := A1) ok hI hi hj hnj

theorem mod_own (R : Mc W w0 m0 M0 (realF kk nb s c) c t4 t6 (outV 0 (-1) 0 q0 0 nilS) w m M) (k5 : c.kind = 5) (ok : s.T.Ok) (hco : CallOk s c) (hI : PInv s.A.ws s.T s.L F) (hmt : Mt s.A.ws s.T F M)
    (fin : MFin W w0 m0 M0 (realF kk nb s c) (midF kk (s00 s) c) c t4 t6 K) : s15_p15 K (P m0.wdb 0) (P t4 0) (P t6 0) w := by
  unfold s15_p15
  try simp only [e_fd, e_nck, e_pkt, e_pkf, e_gdtt, e_gdtf, e_gdft, e_gdff, e_ift, e_iff, e_not, e_ln, e_lnT, e_cp, e_cvi, e_ex20, e_ex21, e_ex30, e_ex31, e_ex32, e_add, e_sub, e_mul, e_quo, e_rem, e_and, e_or, e_xor, e_shl, e_shr, e_eql, e_neq, e_lss, e_leq, e_gtr, e_geq, e_beq, e_bne, e_peq1, e_peq2, e_pne1, e_pne2, e_zeq1, e_zeq2, e_zne1, e_zne2, e_feq1, e_fne1, e_feq2, e_fne2, e_seq, e_sne, e_ta1, e_ta2, Nat.zero_add, Nat.add_zero, Bool.not_true, Bool.not_false]
  refine ld1_r R.r4 rfl ?_
  rcases step5 (s := s) (kk := kk) (nb := nb) ok k5 with ⟨hn, em, er⟩ | ⟨i, hi, hp, em, er⟩
  · rw [em, er] at fin
    rw [er] at R
    rw [← R.wdb]
    refine wowner_ok R.lm.st R.lm.mt R.lm.md hmt.len hmt.fits hco.at_ fun w2 hk2 => ?_
    have e' : ownV ({ s with A := A0 (tk (A0 s.A) kk) } : Ws).T c.at_ = -1 := by show ownV s.T c.at_ = -1; unfold ownV; rw [ownI_none hn]
    rw [e']
    try simp only [e_fd, e_nck, e_pkt, e_pkf, e_gdtt, e_gdtf, e_gdft, e_gdff, e_ift, e_iff, e_not, e_ln, e_lnT, e_cp, e_cvi, e_ex20, e_ex21, e_ex30, e_ex31, e_ex32, e_add, e_sub, e_mul, e_quo, e_rem, e_and, e_or, e_xor, e_shl, e_shr, e_eql, e_neq, e_lss, e_leq, e_gtr, e_geq, e_beq, e_bne, e_peq1, e_peq2, e_pne1, e_pne2, e_zeq1, e_zeq2, e_zne1, e_zne2, e_feq1, e_fne1, e_feq2, e_fne2, e_seq, e_sne, e_ta1, e_ta2, Nat.zero_add, Nat.add_zero, Bool.not_true, Bool.not_false]
    refine (R.kp' hk2).pid fun w3 R3 => ?_
    try simp only [e_fd, e_nck, e_pkt, e_pkf, e_gdtt, e_gdtf, e_gdft, e_gdff, e_ift, e_iff, e_not, e_ln, e_lnT, e_cp, e_cvi, e_ex20, e_ex21, e_ex30, e_ex31, e_ex32, e_add, e_sub, e_mul, e_quo, e_rem, e_and, e_or, e_xor, e_shl, e_shr, e_eql, e_neq, e_lss, e_leq, e_gtr, e_geq, e_beq, e_bne, e_peq1, e_peq2, e_pne1, e_pne2, e_zeq1, e_zeq2, e_zne1, e_zne2, e_feq1, e_fne1, e_feq2, e_fne2, e_seq, e_sne, e_ta1, e_ta2, Nat.zero_add, Nat.add_zero, Bool.not_true, Bool.not_false]
    refine ld1_r R3.r6 rfl ?_
    simp only [show ((-1 : Int) == -1) = true from rfl, e_fd, e_nck, e_pkt, e_pkf, e_gdtt, e_gdtf, e_gdft, e_gdff, e_ift, e_iff, e_not, e_ln, e_lnT, e_cp, e_cvi, e_ex20, e_ex21, e_ex30, e_ex31, e_ex32, e_add, e_sub, e_mul, e_quo, e_rem, e_and, e_or, e_xor, e_shl, e_shr, e_eql, e_neq, e_lss, e_leq, e_gtr, e_geq, e_beq, e_bne, e_peq1, e_peq2, e_pne1, e_pne2, e_zeq1, e_zeq2, e_zne1, e_zne2, e_feq1, e_fne1, e_feq2, e_fne2, e_seq, e_sne, e_ta1, e_ta2, Nat.zero_add, Nat.add_zero, Bool.not_true, Bool.not_false]
    refine R3.code fun w4 R4 => ?_
    exact fin w4 m M F R4 hI hmt
  · rw [em, er] at fin
    rw [er] at R
    rw [← R.wdb]
    refine wowner_ok R.lm.st R.lm.mt R.lm.md hmt.len hmt.fits hco.at_ fun w2 hk2 => ?_
    have e' : ownV ({ s with A := A0 (tk (A0 s.A) kk) } : Ws).T c.at_ = (i : Int) := by show ownV s.T c.at_ = _; unfold ownV; rw [ownI_some ok hi hp]
    rw [e']
    try simp only [e_fd, e_nck, e_pkt, e_pkf, e_gdtt, e_gdtf, e_gdft, e_gdff, e_ift, e_iff, e_not, e_ln, e_lnT, e_cp, e_cvi, e_ex20, e_ex21, e_ex30, e_ex31, e_ex32, e_add, e_sub, e_mul, e_quo, e_rem, e_and, e_or, e_xor, e_shl, e_shr, e_eql, e_neq, e_lss, e_leq, e_gtr, e_geq, e_beq, e_bne, e_peq1, e_peq2, e_pne1, e_pne2, e_zeq1, e_zeq2, e_zne1, e_zne2, e_feq1, e_fne1, e_feq2, e_fne2, e_seq, e_sne, e_ta1, e_ta2, Nat.zero_add, Nat.add_zero, Bool.not_true, Bool.not_false]
    refine (R.kp' hk2).pid fun w3 R3 => ?_
    try simp only [e_fd, e_nck, e_pkt, e_pkf, e_gdtt, e_gdtf, e_gdft, e_gdff, e_ift, e_iff, e_not, e_ln, e_lnT, e_cp, e_cvi, e_ex20, e_ex21, e_ex30, e_ex31, e_ex32, e_add, e_sub, e_mul, e_quo, e_rem, e_and, e_or, e_xor, e_shl, e_shr, e_eql, e_neq, e_lss, e_leq, e_gtr, e_geq, e_beq, e_bne, e_peq1, e_peq2, e_pne1, e_pne2, e_zeq1, e_zeq2, e_zne1, e_zne2, e_feq1, e_fne1, e_feq2, e_fne2, e_seq, e_sne, e_ta1, e_ta2, Nat.zero_add, Nat.add_zero, Bool.not_true, Bool.not_false]
    refine ld1_r R3.r6 rfl ?_
    have en : (((i : Nat) : Int) == -1) = false := by rw [beq_eq_false_iff_ne]; omega
    simp only [en, e_fd, e_nck, e_pkt, e_pkf, e_gdtt, e_gdtf, e_gdft, e_gdff, e_ift, e_iff, e_not, e_ln, e_lnT, e_cp, e_cvi, e_ex20, e_ex21, e_ex30, e_ex31, e_ex32, e_add, e_sub, e_mul, e_quo, e_rem, e_and, e_or, e_xor, e_shl, e_shr, e_eql, e_neq, e_lss, e_leq, e_gtr, e_geq, e_beq, e_bne, e_peq1, e_peq2, e_pne1, e_pne2, e_zeq1, e_zeq2, e_zne1, e_zne2, e_feq1, e_fne1, e_feq2, e_fne2, e_seq, e_sne, e_ta1, e_ta2, Nat.zero_add, Nat.add_zero, Bool.not_true, Bool.not_false]
    exact fin w3 m M F R3 hI hmt

theorem mod_stats (R : Mc W w0 m0 M0 (realF kk nb s c) c t4 t6 (outV 0 (-1) 0 q0 0 nilS) w m M) (k6 : c.kind = 6) (ok : s.T.Ok) (hI : PInv s.A.ws s.T s.L F) (hmt : Mt s.A.ws s.T F M)
    (fin : MFin W w0 m0 M0 (realF kk nb s c) (midF kk (s00 s) c) c t4 t6 K) : s15_p16 K (P m0.wdb 0) (P t4 0) (P t6 0) w := by
  unfold s15_p16 s15_p16_d
  have R := R.kp' (w' := drw w) kp_drw
  generalize drw w = w at R ⊢
  try simp only [e_fd, e_nck, e_pkt, e_pkf, e_gdtt, e_gdtf, e_gdft, e_gdff, e_ift, e_iff, e_not, e_ln, e_lnT, e_cp, e_cvi, e_ex20, e_ex21, e_ex30, e_ex31, e_ex32, e_add, e_sub, e_mul, e_quo, e_rem, e_and, e_or, e_xor, e_shl, e_shr, e_eql, e_neq, e_lss, e_leq, e_gtr, e_geq, e_beq, e_bne, e_peq1, e_peq2, e_pne1, e_pne2, e_zeq1, e_zeq2, e_zne1, e_zne2, e_feq1, e_fne1, e_feq2, e_fne2, e_seq, e_sne, e_ta1, e_ta2, Nat.zero_add, Nat.add_zero, Bool.not_true, Bool.not_false]
  refine ld1_r R.row rfl ?_
  try simp only [e_fd, e_nck, e_pkt, e_pkf, e_gdtt, e_gdtf, e_gdft, e_gdff, e_ift, e_iff, e_not, e_ln, e_lnT, e_cp, e_cvi, e_ex20, e_ex21, e_ex30, e_ex31, e_ex32, e_add, e_sub, e_mul, e_quo, e_rem, e_and, e_or, e_xor, e_shl, e_shr, e_eql, e_neq, e_lss, e_leq, e_gtr, e_geq, e_beq, e_bne, e_peq1, e_peq2, e_pne1, e_pne2, e_zeq1, e_zeq2, e_zne1, e_zne2, e_feq1, e_fne1, e_feq2, e_fne2, e_seq, e_sne, e_ta1, e_ta2, Nat.zero_add, Nat.add_zero, Bool.not_true, Bool.not_false]
  refine ld1_r R.r4 rfl ?_
  try simp only [e_fd, e_nck, e_pkt, e_pkf, e_gdtt, e_gdtf, e_gdft, e_gdff, e_ift, e_iff, e_not, e_ln, e_lnT, e_cp, e_cvi, e_ex20, e_ex21, e_ex30, e_ex31, e_ex32, e_add, e_sub, e_mul, e_quo, e_rem, e_and, e_or, e_xor, e_shl, e_shr, e_eql, e_neq, e_lss, e_leq, e_gtr, e_geq, e_beq, e_bne, e_peq1, e_peq2, e_pne1, e_pne2, e_zeq1, e_zeq2, e_zne1, e_zne2, e_feq1, e_fne1, e_feq2, e_fne2, e_seq, e_sne, e_ta1, e_ta2, Nat.zero_add, Nat.add_zero, Bool.not_true, Bool.not_false]
  rcases step6 (s := s) (kk := kk) (nb := nb) k6 hI with ⟨hn, em, er⟩ | ⟨i, hi, hid, A', ew, es, em, er⟩
  · rw [em, er] at fin
    rw [er] at R
    have hno : ¬ (0 ≤ c.pool ∧ c.pool < M.ps.length) := by rw [hmt.len]; exact hn
    refine mstats_no R.lm.mt hno fun w1 hk1 => ?_
    simp only [and_self, e_fd, e_nck, e_pkt, e_pkf, e_gdtt, e_gdtf, e_gdft, e_gdff, e_ift, e_iff, e_not, e_ln, e_lnT, e_cp, e_cvi, e_ex20, e_ex21, e_ex30, e_ex31, e_ex32, e_add, e_sub, e_mul, e_quo, e_rem, e_and, e_or, e_xor, e_shl, e_shr, e_eql, e_neq, e_lss, e_leq, e_gtr, e_geq, e_beq, e_bne, e_peq1, e_peq2, e_pne1, e_pne2, e_zeq1, e_zeq2, e_zne1, e_zne2, e_feq1, e_fne1, e_feq2, e_fne2, e_seq, e_sne, e_ta1, e_ta2, Nat.zero_add, Nat.add_zero, Bool.not_true, Bool.not_false]
    refine (R.kp' hk1).fig fun w2 R2 => ?_
    refine R2.code fun w3 R3 => ?_
    exact fin w3 m M F R3 hI hmt
  · rw [em, er] at fin
    rw [er] at R
    have him : i < M.ps.length := by rw [hmt.len]; exact hi
    have hq := hmt.at_ i hi him
    have hok := (ok.sh _ (List.getElem_mem hi)).1
    have hP := hI.pool i hi
    have h1 := hq.len
    have h2 := hP.used
    have h3 := hP.pk2
    have h4 := hq.n
    have h5 := hok.n2
    have h6 := hq.pk
    rw [hid]
    refine mstats_has R.lm.mt him (by omega) (by omega) (by omega) fun w1 hk1 => ?_
    have hul : M.ps[i].us.length = s.A.ws (s.T.ps[i].ctl + 2) := by omega
    rw [hul, h4, h6, hq.fl]
    simp only [and_self, e_fd, e_nck, e_pkt, e_pkf, e_gdtt, e_gdtf, e_gdft, e_gdff, e_ift, e_iff, e_not, e_ln, e_lnT, e_cp, e_cvi, e_ex20, e_ex21, e_ex30, e_ex31, e_ex32, e_add, e_sub, e_mul, e_quo, e_rem, e_and, e_or, e_xor, e_shl, e_shr, e_eql, e_neq, e_lss, e_leq, e_gtr, e_geq, e_beq, e_bne, e_peq1, e_peq2, e_pne1, e_pne2, e_zeq1, e_zeq2, e_zne1, e_zne2, e_feq1, e_fne1, e_feq2, e_fne2, e_seq, e_sne, e_ta1, e_ta2, Nat.zero_add, Nat.add_zero, Bool.not_true, Bool.not_false]
    refine (R.kp' hk1).fig fun w2 R2 => ?_
    refine R2.code fun w3 R3 => ?_
    refine fin w3 m M F R3 ?_ ?_
    · show PInv A'.ws s.T s.L F
      rw [ew]; exact hI
    · show Mt A'.ws s.T F M
      rw [ew]; exact hmt

theorem model_ok {at_ : Nat} (h : LM W w m (realF kk nb s c) M) (ok : s.T.Ok) (hI : PInv s.A.ws s.T s.L F) (hf : FailLe 18446744073709551614 s) (hmt : Mt s.A.ws s.T F M) (hco : CallOk s c) (k8 : c.kind ≠ 8)
    (hop : c.kind = 0 → (0 ≤ c.a ∧ c.a < 4294967296) ∧ 0 ≤ c.b ∧ c.b < 4294967296) (hat : at_ = (midF kk (s00 s) c).at_)
    (hK : ∀ w' m' M' F', LM W w' m' (realF kk nb s c) M' → m'.wdb = m.wdb → Kp (fun b => OwnM M b ∨ b = m.wdb) w w' → PInv (realF kk nb s c).A.ws (realF kk nb s c).T (realF kk nb s c).L F' → Mt (realF kk nb s c).A.ws (realF kk nb s c).T F' M' →
      K (.tuple #[.agg (outV (midF kk (s00 s) c).code (midF kk (s00 s) c).id (midF kk (s00 s) c).at_ (midF kk (s00 s) c).q 0 nilS).toArray, .bool true]) w') :
    cl Tryd.prog 15 #[P m.wdb 0, .agg (cac c).toArray, U32 at_] K w := by
  subst hat
  apply c15
  unfold s15_p33
  refine nw_r fun w1 r1 hk1 hz1 => ?_
  refine nw_r fun w2 r2 hk2 hz2 => ?_
  try simp only [e_fd, e_nck, e_pkt, e_pkf, e_gdtt, e_gdtf, e_gdft, e_gdff, e_ift, e_iff, e_not, e_ln, e_lnT, e_cp, e_cvi, e_ex20, e_ex21, e_ex30, e_ex31, e_ex32, e_add, e_sub, e_mul, e_quo, e_rem, e_and, e_or, e_xor, e_shl, e_shr, e_eql, e_neq, e_lss, e_leq, e_gtr, e_geq, e_beq, e_bne, e_peq1, e_peq2, e_pne1, e_pne2, e_zeq1, e_zeq2, e_zne1, e_zne2, e_feq1, e_fne1, e_feq2, e_fne2, e_seq, e_sne, e_ta1, e_ta2, Nat.zero_add, Nat.add_zero, Bool.not_true, Bool.not_false]
  have r1' : Row w2 w.heap.size 33 (cac c) := hk2.row' r1
  have sz1 := hk1.size
  refine st1_r r2 (show 1 < 9 by decide) rfl fun w3 r3 hk3 hz3 => ?_
  have k03 : Kp (fun _ => False) w w3 := (hk1.trans hk2).then hk3 (fun b hb (q : b = _) => by omega)
  have r13 : Row w3 w.heap.size 33 (cac c) := hk3.row r1' (fun (q : _ = _) => row_ne r1' r2 (by decide) q)
  have R : Mc W w m M (realF kk nb s c) c w.heap.size w1.heap.size (outV 0 (-1) 0 q0 0 nilS) w3 m M :=
    ⟨h.kp' k03, k03.mono (fun b _ q => q.elim), fun b hb => .inl hb, r13, r3, Nat.le_refl _, sz1, rfl, h.st.bel.size⟩
  have fin : MFin W w m M (realF kk nb s c) (midF kk (s00 s) c) c w.heap.size w1.heap.size K := by
    intro w' m' M' F' R' hI' hmt'
    unfold s15_p1
    refine ldn_r R'.r6 (show 0 + 9 ≤ 9 by decide) ?_
    refine stn_r (cs := outV (midF kk (s00 s) c).code (midF kk (s00 s) c).id (midF kk (s00 s) c).at_ (midF kk (s00 s) c).q 0 nilS) R'.r6 rfl (show 0 + 9 ≤ 9 by decide) (by simp [outV, scal]) fun w4 r4 hk4 hz4 => ?_
    have R4 := R'.out hk4 r4
    refine ldn_r r4 (show 0 + 9 ≤ _ by simp [outV]) ?_
    exact hK w4 m' M' F' R4.lm R4.wdb R4.kp hI' hmt'
  try simp only [e_fd, e_nck, e_pkt, e_pkf, e_gdtt, e_gdtf, e_gdft, e_gdff, e_ift, e_iff, e_not, e_ln, e_lnT, e_cp, e_cvi, e_ex20, e_ex21, e_ex30, e_ex31, e_ex32, e_add, e_sub, e_mul, e_quo, e_rem, e_and, e_or, e_xor, e_shl, e_shr, e_eql, e_neq, e_lss, e_leq, e_gtr, e_geq, e_beq, e_bne, e_peq1, e_peq2, e_pne1, e_pne2, e_zeq1, e_zeq2, e_zne1, e_zne2, e_feq1, e_fne1, e_feq2, e_fne2, e_seq, e_sne, e_ta1, e_ta2, Nat.zero_add, Nat.add_zero, Bool.not_true, Bool.not_false]
  refine ld1_r r13 rfl ?_
  unfold s15_p32 u8
  try simp only [e_fd, e_nck, e_pkt, e_pkf, e_gdtt, e_gdtf, e_gdft, e_gdff, e_ift, e_iff, e_not, e_ln, e_lnT, e_cp, e_cvi, e_ex20, e_ex21, e_ex30, e_ex31, e_ex32, e_add, e_sub, e_mul, e_quo, e_rem, e_and, e_or, e_xor, e_shl, e_shr, e_eql, e_neq, e_lss, e_leq, e_gtr, e_geq, e_beq, e_bne, e_peq1, e_peq2, e_pne1, e_pne2, e_zeq1, e_zeq2, e_zne1, e_zne2, e_feq1, e_fne1, e_feq2, e_fne2, e_seq, e_sne, e_ta1, e_ta2, Nat.zero_add, Nat.add_zero, Bool.not_true, Bool.not_false]
  by_cases k0 : c.kind = 0
  · have e : (((c.kind : Nat) : Int) == 0) = true := by rw [k0]; rfl
    unfold s15_p31
    simp only [e, e_fd, e_nck, e_pkt, e_pkf, e_gdtt, e_gdtf, e_gdft, e_gdff, e_ift, e_iff, e_not, e_ln, e_lnT, e_cp, e_cvi, e_ex20, e_ex21, e_ex30, e_ex31, e_ex32, e_add, e_sub, e_mul, e_quo, e_rem, e_and, e_or, e_xor, e_shl, e_shr, e_eql, e_neq, e_lss, e_leq, e_gtr, e_geq, e_beq, e_bne, e_peq1, e_peq2, e_pne1, e_pne2, e_zeq1, e_zeq2, e_zne1, e_zne2, e_feq1, e_fne1, e_feq2, e_fne2, e_seq, e_sne, e_ta1, e_ta2, Nat.zero_add, Nat.add_zero, Bool.not_true, Bool.not_false]
    exact mod_open R k0 hI hmt (hop k0).1 (hop k0).2 fin
  have e : (((c.kind : Nat) : Int) == 0) = false := by rw [beq_eq_false_iff_ne]; omega
  unfold s15_p31
  simp only [e, e_fd, e_nck, e_pkt, e_pkf, e_gdtt, e_gdtf, e_gdft, e_gdff, e_ift, e_iff, e_not, e_ln, e_lnT, e_cp, e_cvi, e_ex20, e_ex21, e_ex30, e_ex31, e_ex32, e_add, e_sub, e_mul, e_quo, e_rem, e_and, e_or, e_xor, e_shl, e_shr, e_eql, e_neq, e_lss, e_leq, e_gtr, e_geq, e_beq, e_bne, e_peq1, e_peq2, e_pne1, e_pne2, e_zeq1, e_zeq2, e_zne1, e_zne2, e_feq1, e_fne1, e_feq2, e_fne2, e_seq, e_sne, e_ta1, e_ta2, Nat.zero_add, Nat.add_zero, Bool.not_true, Bool.not_false]
  unfold s15_p30
  try simp only [e_fd, e_nck, e_pkt, e_pkf, e_gdtt, e_gdtf, e_gdft, e_gdff, e_ift, e_iff, e_not, e_ln, e_lnT, e_cp, e_cvi, e_ex20, e_ex21, e_ex30, e_ex31, e_ex32, e_add, e_sub, e_mul, e_quo, e_rem, e_and, e_or, e_xor, e_shl, e_shr, e_eql, e_neq, e_lss, e_leq, e_gtr, e_geq, e_beq, e_bne, e_peq1, e_peq2, e_pne1, e_pne2, e_zeq1, e_zeq2, e_zne1, e_zne2, e_feq1, e_fne1, e_feq2, e_fne2, e_seq, e_sne, e_ta1, e_ta2, Nat.zero_add, Nat.add_zero, Bool.not_true, Bool.not_false]
  by_cases k1 : c.kind = 1
  · have e : (((c.kind : Nat) : Int) == 1) = true := by rw [k1]; rfl
    unfold s15_p29
    simp only [e, e_fd, e_nck, e_pkt, e_pkf, e_gdtt, e_gdtf, e_gdft, e_gdff, e_ift, e_iff, e_not, e_ln, e_lnT, e_cp, e_cvi, e_ex20, e_ex21, e_ex30, e_ex31, e_ex32, e_add, e_sub, e_mul, e_quo, e_rem, e_and, e_or, e_xor, e_shl, e_shr, e_eql, e_neq, e_lss, e_leq, e_gtr, e_geq, e_beq, e_bne, e_peq1, e_peq2, e_pne1, e_pne2, e_zeq1, e_zeq2, e_zne1, e_zne2, e_feq1, e_fne1, e_feq2, e_fne2, e_seq, e_sne, e_ta1, e_ta2, Nat.zero_add, Nat.add_zero, Bool.not_true, Bool.not_false]
    exact mod_create R k1 ok hI hmt fin
  have e : (((c.kind : Nat) : Int) == 1) = false := by rw [beq_eq_false_iff_ne]; omega
  unfold s15_p29
  simp only [e, e_fd, e_nck, e_pkt, e_pkf, e_gdtt, e_gdtf, e_gdft, e_gdff, e_ift, e_iff, e_not, e_ln, e_lnT, e_cp, e_cvi, e_ex20, e_ex21, e_ex30, e_ex31, e_ex32, e_add, e_sub, e_mul, e_quo, e_rem, e_and, e_or, e_xor, e_shl, e_shr, e_eql, e_neq, e_lss, e_leq, e_gtr, e_geq, e_beq, e_bne, e_peq1, e_peq2, e_pne1, e_pne2, e_zeq1, e_zeq2, e_zne1, e_zne2, e_feq1, e_fne1, e_feq2, e_fne2, e_seq, e_sne, e_ta1, e_ta2, Nat.zero_add, Nat.add_zero, Bool.not_true, Bool.not_false]
  unfold s15_p28
  try simp only [e_fd, e_nck, e_pkt, e_pkf, e_gdtt, e_gdtf, e_gdft, e_gdff, e_ift, e_iff, e_not, e_ln, e_lnT, e_cp, e_cvi, e_ex20, e_ex21, e_ex30, e_ex31, e_ex32, e_add, e_sub, e_mul, e_quo, e_rem, e_and, e_or, e_xor, e_shl, e_shr, e_eql, e_neq, e_lss, e_leq, e_gtr, e_geq, e_beq, e_bne, e_peq1, e_peq2, e_pne1, e_pne2, e_zeq1, e_zeq2, e_zne1, e_zne2, e_feq1, e_fne1, e_feq2, e_fne2, e_seq, e_sne, e_ta1, e_ta2, Nat.zero_add, Nat.add_zero, Bool.not_true, Bool.not_false]
  by_cases k2 : c.kind = 2
  · have e : (((c.kind : Nat) : Int) == 2) = true := by rw [k2]; rfl
    unfold s15_p27
    simp only [e, e_fd, e_nck, e_pkt, e_pkf, e_gdtt, e_gdtf, e_gdft, e_gdff, e_ift, e_iff, e_not, e_ln, e_lnT, e_cp, e_cvi, e_ex20, e_ex21, e_ex30, e_ex31, e_ex32, e_add, e_sub, e_mul, e_quo, e_rem, e_and, e_or, e_xor, e_shl, e_shr, e_eql, e_neq, e_lss, e_leq, e_gtr, e_geq, e_beq, e_bne, e_peq1, e_peq2, e_pne1, e_pne2, e_zeq1, e_zeq2, e_zne1, e_zne2, e_feq1, e_fne1, e_feq2, e_fne2, e_seq, e_sne, e_ta1, e_ta2, Nat.zero_add, Nat.add_zero, Bool.not_true, Bool.not_false]
    exact mod_alloc R k2 ok hI hf hmt fin
  have e : (((c.kind : Nat) : Int) == 2) = false := by rw [beq_eq_false_iff_ne]; omega
  unfold s15_p27
  simp only [e, e_fd, e_nck, e_pkt, e_pkf, e_gdtt, e_gdtf, e_gdft, e_gdff, e_ift, e_iff, e_not, e_ln, e_lnT, e_cp, e_cvi, e_ex20, e_ex21, e_ex30, e_ex31, e_ex32, e_add, e_sub, e_mul, e_quo, e_rem, e_and, e_or, e_xor, e_shl, e_shr, e_eql, e_neq, e_lss, e_leq, e_gtr, e_geq, e_beq, e_bne, e_peq1, e_peq2, e_pne1, e_pne2, e_zeq1, e_zeq2, e_zne1, e_zne2, e_feq1, e_fne1, e_feq2, e_fne2, e_seq, e_sne, e_ta1, e_ta2, Nat.zero_add, Nat.add_zero, Bool.not_true, Bool.not_false]
  unfold s15_p26
  try simp only [e_fd, e_nck, e_pkt, e_pkf, e_gdtt, e_gdtf, e_gdft, e_gdff, e_ift, e_iff, e_not, e_ln, e_lnT, e_cp, e_cvi, e_ex20, e_ex21, e_ex30, e_ex31, e_ex32, e_add, e_sub, e_mul, e_quo, e_rem, e_and, e_or, e_xor, e_shl, e_shr, e_eql, e_neq, e_lss, e_leq, e_gtr, e_geq, e_beq, e_bne, e_peq1, e_peq2, e_pne1, e_pne2, e_zeq1, e_zeq2, e_zne1, e_zne2, e_feq1, e_fne1, e_feq2, e_fne2, e_seq, e_sne, e_ta1, e_ta2, Nat.zero_add, Nat.add_zero, Bool.not_true, Bool.not_false]
  by_cases k3 : c.kind = 3
  · have e : (((c.kind : Nat) : Int) == 3) = true := by rw [k3]; rfl
    unfold s15_p25
    simp only [e, e_fd, e_nck, e_pkt, e_pkf, e_gdtt, e_gdtf, e_gdft, e_gdff, e_ift, e_iff, e_not, e_ln, e_lnT, e_cp, e_cvi, e_ex20, e_ex21, e_ex30, e_ex31, e_ex32, e_add, e_sub, e_mul, e_quo, e_rem, e_and, e_or, e_xor, e_shl, e_shr, e_eql, e_neq, e_lss, e_leq, e_gtr, e_geq, e_beq, e_bne, e_peq1, e_peq2, e_pne1, e_pne2, e_zeq1, e_zeq2, e_zne1, e_zne2, e_feq1, e_fne1, e_feq2, e_fne2, e_seq, e_sne, e_ta1, e_ta2, Nat.zero_add, Nat.add_zero, Bool.not_true, Bool.not_false]
    exact mod_free R k3 ok hco hI hmt fin
  have e : (((c.kind : Nat) : Int) == 3) = false := by rw [beq_eq_false_iff_ne]; omega
  unfold s15_p25
  simp only [e, e_fd, e_nck, e_pkt, e_pkf, e_gdtt, e_gdtf, e_gdft, e_gdff, e_ift, e_iff, e_not, e_ln, e_lnT, e_cp, e_cvi, e_ex20, e_ex21, e_ex30, e_ex31, e_ex32, e_add, e_sub, e_mul, e_quo, e_rem, e_and, e_or, e_xor, e_shl, e_shr, e_eql, e_neq, e_lss, e_leq, e_gtr, e_geq, e_beq, e_bne, e_peq1, e_peq2, e_pne1, e_pne2, e_zeq1, e_zeq2, e_zne1, e_zne2, e_feq1, e_fne1, e_feq2, e_fne2, e_seq, e_sne, e_ta1, e_ta2, Nat.zero_add, Nat.add_zero, Bool.not_true, Bool.not_false]
  unfold s15_p24
  try simp only [e_fd, e_nck, e_pkt, e_pkf, e_gdtt, e_gdtf, e_gdft, e_gdff, e_ift, e_iff, e_not, e_ln, e_lnT, e_cp, e_cvi, e_ex20, e_ex21, e_ex30, e_ex31, e_ex32, e_add, e_sub, e_mul, e_quo, e_rem, e_and, e_or, e_xor, e_shl, e_shr, e_eql, e_neq, e_lss, e_leq, e_gtr, e_geq, e_beq, e_bne, e_peq1, e_peq2, e_pne1, e_pne2, e_zeq1, e_zeq2, e_zne1, e_zne2, e_feq1, e_fne1, e_feq2, e_fne2, e_seq, e_sne, e_ta1, e_ta2, Nat.zero_add, Nat.add_zero, Bool.not_true, Bool.not_false]
  by_cases k4 : c.kind = 4
  · have e : (((c.kind : Nat) : Int) == 4) = true := by rw [k4]; rfl
    unfold s15_p23
    simp only [e, e_fd, e_nck, e_pkt, e_pkf, e_gdtt, e_gdtf, e_gdft, e_gdff, e_ift, e_iff, e_not, e_ln, e_lnT, e_cp, e_cvi, e_ex20, e_ex21, e_ex30, e_ex31, e_ex32, e_add, e_sub, e_mul, e_quo, e_rem, e_and, e_or, e_xor, e_shl, e_shr, e_eql, e_neq, e_lss, e_leq, e_gtr, e_geq, e_beq, e_bne, e_peq1, e_peq2, e_pne1, e_pne2, e_zeq1, e_zeq2, e_zne1, e_zne2, e_feq1, e_fne1, e_feq2, e_fne2, e_seq, e_sne, e_ta1, e_ta2, Nat.zero_add, Nat.add_zero, Bool.not_true, Bool.not_false]
    exact mod_rel R k4 ok hco hI hmt fin
  have e : (((c.kind : Nat) : Int) == 4) = false := by rw [beq_eq_false_iff_ne]; omega
  unfold s15_p23
  simp only [e, e_fd, e_nck, e_pkt, e_pkf, e_gdtt, e_gdtf, e_gdft, e_gdff, e_ift, e_iff, e_not, e_ln, e_lnT, e_cp, e_cvi, e_ex20, e_ex21, e_ex30, e_ex31, e_ex32, e_add, e_sub, e_mul, e_quo, e_rem, e_and, e_or, e_xor, e_shl, e_shr, e_eql, e_neq, e_lss, e_leq, e_gtr, e_geq, e_beq, e_bne, e_peq1, e_peq2, e_pne1, e_pne2, e_zeq1, e_zeq2, e_zne1, e_zne2, e_feq1, e_fne1, e_feq2, e_fne2, e_seq, e_sne, e_ta1, e_ta2, Nat.zero_add, Nat.add_zero, Bool.not_true, Bool.not_false]
  unfold s15_p22
  try simp only [e_fd, e_nck, e_pkt, e_pkf, e_gdtt, e_gdtf, e_gdft, e_gdff, e_ift, e_iff, e_not, e_ln, e_lnT, e_cp, e_cvi, e_ex20, e_ex21, e_ex30, e_ex31, e_ex32, e_add, e_sub, e_mul, e_quo, e_rem, e_and, e_or, e_xor, e_shl, e_shr, e_eql, e_neq, e_lss, e_leq, e_gtr, e_geq, e_beq, e_bne, e_peq1, e_peq2, e_pne1, e_pne2, e_zeq1, e_zeq2, e_zne1, e_zne2, e_feq1, e_fne1, e_feq2, e_fne2, e_seq, e_sne, e_ta1, e_ta2, Nat.zero_add, Nat.add_zero, Bool.not_true, Bool.not_false]
  by_cases k5 : c.kind = 5
  · have e : (((c.kind : Nat) : Int) == 5) = true := by rw [k5]; rfl
    unfold s15_p21
    simp only [e, e_fd, e_nck, e_pkt, e_pkf, e_gdtt, e_gdtf, e_gdft, e_gdff, e_ift, e_iff, e_not, e_ln, e_lnT, e_cp, e_cvi, e_ex20, e_ex21, e_ex30, e_ex31, e_ex32, e_add, e_sub, e_mul, e_quo, e_rem, e_and, e_or, e_xor, e_shl, e_shr, e_eql, e_neq, e_lss, e_leq, e_gtr, e_geq, e_beq, e_bne, e_peq1, e_peq2, e_pne1, e_pne2, e_zeq1, e_zeq2, e_zne1, e_zne2, e_feq1, e_fne1, e_feq2, e_fne2, e_seq, e_sne, e_ta1, e_ta2, Nat.zero_add, Nat.add_zero, Bool.not_true, Bool.not_false]
    exact mod_own R k5 ok hco hI hmt fin
  have e : (((c.kind : Nat) : Int) == 5) = false := by rw [beq_eq_false_iff_ne]; omega
  unfold s15_p21
  simp only [e, e_fd, e_nck, e_pkt, e_pkf, e_gdtt, e_gdtf, e_gdft, e_gdff, e_ift, e_iff, e_not, e_ln, e_lnT, e_cp, e_cvi, e_ex20, e_ex21, e_ex30, e_ex31, e_ex32, e_add, e_sub, e_mul, e_quo, e_rem, e_and, e_or, e_xor, e_shl, e_shr, e_eql, e_neq, e_lss, e_leq, e_gtr, e_geq, e_beq, e_bne, e_peq1, e_peq2, e_pne1, e_pne2, e_zeq1, e_zeq2, e_zne1, e_zne2, e_feq1, e_fne1, e_feq2, e_fne2, e_seq, e_sne, e_ta1, e_ta2, Nat.zero_add, Nat.add_zero, Bool.not_true, Bool.not_false]
  unfold s15_p20
  try simp only [e_fd, e_nck, e_pkt, e_pkf, e_gdtt, e_gdtf, e_gdft, e_gdff, e_ift, e_iff, e_not, e_ln, e_lnT, e_cp, e_cvi, e_ex20, e_ex21, e_ex30, e_ex31, e_ex32, e_add, e_sub, e_mul, e_quo, e_rem, e_and, e_or, e_xor, e_shl, e_shr, e_eql, e_neq, e_lss, e_leq, e_gtr, e_geq, e_beq, e_bne, e_peq1, e_peq2, e_pne1, e_pne2, e_zeq1, e_zeq2, e_zne1, e_zne2, e_feq1, e_fne1, e_feq2, e_fne2, e_seq, e_sne, e_ta1, e_ta2, Nat.zero_add, Nat.add_zero, Bool.not_true, Bool.not_false]
  by_cases k6 : c.kind = 6
  · have e : (((c.kind : Nat) : Int) == 6) = true := by rw [k6]; rfl
    unfold s15_p19
    simp only [e, e_fd, e_nck, e_pkt, e_pkf, e_gdtt, e_gdtf, e_gdft, e_gdff, e_ift, e_iff, e_not, e_ln, e_lnT, e_cp, e_cvi, e_ex20, e_ex21, e_ex30, e_ex31, e_ex32, e_add, e_sub, e_mul, e_quo, e_rem, e_and, e_or, e_xor, e_shl, e_shr, e_eql, e_neq, e_lss, e_leq, e_gtr, e_geq, e_beq, e_bne, e_peq1, e_peq2, e_pne1, e_pne2, e_zeq1, e_zeq2, e_zne1, e_zne2, e_feq1, e_fne1, e_feq2, e_fne2, e_seq, e_sne, e_ta1, e_ta2, Nat.zero_add, Nat.add_zero, Bool.not_true, Bool.not_false]
    exact mod_stats R k6 ok hI hmt fin
  have e : (((c.kind : Nat) : Int) == 6) = false := by rw [beq_eq_false_iff_ne]; omega
  unfold s15_p19
  simp only [e, e_fd, e_nck, e_pkt, e_pkf, e_gdtt, e_gdtf, e_gdft, e_gdff, e_ift, e_iff, e_not, e_ln, e_lnT, e_cp, e_cvi, e_ex20, e_ex21, e_ex30, e_ex31, e_ex32, e_add, e_sub, e_mul, e_quo, e_rem, e_and, e_or, e_xor, e_shl, e_shr, e_eql, e_neq, e_lss, e_leq, e_gtr, e_geq, e_beq, e_bne, e_peq1, e_peq2, e_pne1, e_pne2, e_zeq1, e_zeq2, e_zne1, e_zne2, e_feq1, e_fne1, e_feq2, e_fne2, e_seq, e_sne, e_ta1, e_ta2, Nat.zero_add, Nat.add_zero, Bool.not_true, Bool.not_false]
  unfold s15_p18
  try simp only [e_fd, e_nck, e_pkt, e_pkf, e_gdtt, e_gdtf, e_gdft, e_gdff, e_ift, e_iff, e_not, e_ln, e_lnT, e_cp, e_cvi, e_ex20, e_ex21, e_ex30, e_ex31, e_ex32, e_add, e_sub, e_mul, e_quo, e_rem, e_and, e_or, e_xor, e_shl, e_shr, e_eql, e_neq, e_lss, e_leq, e_gtr, e_geq, e_beq, e_bne, e_peq1, e_peq2, e_pne1, e_pne2, e_zeq1, e_zeq2, e_zne1, e_zne2, e_feq1, e_fne1, e_feq2, e_fne2, e_seq, e_sne, e_ta1, e_ta2, Nat.zero_add, Nat.add_zero, Bool.not_true, Bool.not_false]
  by_cases k7 : c.kind = 7
  · have e : (((c.kind : Nat) : Int) == 7) = true := by rw [k7]; rfl
    simp only [e, e_fd, e_nck, e_pkt, e_pkf, e_gdtt, e_gdtf, e_gdft, e_gdff, e_ift, e_iff, e_not, e_ln, e_lnT, e_cp, e_cvi, e_ex20, e_ex21, e_ex30, e_ex31, e_ex32, e_add, e_sub, e_mul, e_quo, e_rem, e_and, e_or, e_xor, e_shl, e_shr, e_eql, e_neq, e_lss, e_leq, e_gtr, e_geq, e_beq, e_bne, e_peq1, e_peq2, e_pne1, e_pne2, e_zeq1, e_zeq2, e_zne1, e_zne2, e_feq1, e_fne1, e_feq2, e_fne2, e_seq, e_sne, e_ta1, e_ta2, Nat.zero_add, Nat.add_zero, Bool.not_true, Bool.not_false]
    unfold s15_p17
    try simp only [e_fd, e_nck, e_pkt, e_pkf, e_gdtt, e_gdtf, e_gdft, e_gdff, e_ift, e_iff, e_not, e_ln, e_lnT, e_cp, e_cvi, e_ex20, e_ex21, e_ex30, e_ex31, e_ex32, e_add, e_sub, e_mul, e_quo, e_rem, e_and, e_or, e_xor, e_shl, e_shr, e_eql, e_neq, e_lss, e_leq, e_gtr, e_geq, e_beq, e_bne, e_peq1, e_peq2, e_pne1, e_pne2, e_zeq1, e_zeq2, e_zne1, e_zne2, e_feq1, e_fne1, e_feq2, e_fne2, e_seq, e_sne, e_ta1, e_ta2, Nat.zero_add, Nat.add_zero, Bool.not_true, Bool.not_false]
    rcases step7 (s := s) (kk := kk) (nb := nb) k7 hco with ⟨_, em, er⟩ | ⟨p, hp, t, ht, A', ew, es, em, er⟩
    · rw [em, er] at fin
      rw [er] at R
      exact fin w3 m M F R hI hmt
    · rw [em, er] at fin
      rw [er] at R
      refine fin w3 m M F R ?_ ?_
      · show PInv A'.ws s.T _ F
        rw [ew]; exact hI.poke ok hp ht
      · show Mt A'.ws s.T F M
        refine ⟨hmt.room, hmt.len, fun i hi hm => (hmt.at_ i hi hm).frame ?_ ?_⟩
        all_goals
          rw [ew]
          refine updO ?_
          obtain ⟨k, hk, l, x1, x2, x3, x4, x5⟩ := hI.live _ (List.getElem_mem hp)
          have hl : s.L[p].ws.length = s.T.ps[k].bw := by rw [x5, cutW_len]
          have o1 := (ok.sh _ (List.getElem_mem hk)).1
          have o2 := (ok.sh _ (List.getElem_mem hi)).1
          have b := bk_in o1 x2 (show t < s.T.ps[k].bw by omega)
          have := fst_ge o1
          have := fst_ge o2
          have := o2.fin
          by_cases e' : k = i
          · subst e'; omega
          · have := apart ok hk hi e'; omega
  have e : (((c.kind : Nat) : Int) == 7) = false := by rw [beq_eq_false_iff_ne]; omega
  have e8 : (((c.kind : Nat) : Int) == 8) = false := by rw [beq_eq_false_iff_ne]; omega
  simp only [e, e8, e_fd, e_nck, e_pkt, e_pkf, e_gdtt, e_gdtf, e_gdft, e_gdff, e_ift, e_iff, e_not, e_ln, e_lnT, e_cp, e_cvi, e_ex20, e_ex21, e_ex30, e_ex31, e_ex32, e_add, e_sub, e_mul, e_quo, e_rem, e_and, e_or, e_xor, e_shl, e_shr, e_eql, e_neq, e_lss, e_leq, e_gtr, e_geq, e_beq, e_bne, e_peq1, e_peq2, e_pne1, e_pne2, e_zeq1, e_zeq2, e_zne1, e_zne2, e_feq1, e_fne1, e_feq2, e_fne2, e_seq, e_sne, e_ta1, e_ta2, Nat.zero_add, Nat.add_zero, Bool.not_true, Bool.not_false]
  unfold s15_p17
  try simp only [e_fd, e_nck, e_pkt, e_pkf, e_gdtt, e_gdtf, e_gdft, e_gdff, e_ift, e_iff, e_not, e_ln, e_lnT, e_cp, e_cvi, e_ex20, e_ex21, e_ex30, e_ex31, e_ex32, e_add, e_sub, e_mul, e_quo, e_rem, e_and, e_or, e_xor, e_shl, e_shr, e_eql, e_neq, e_lss, e_leq, e_gtr, e_geq, e_beq, e_bne, e_peq1, e_peq2, e_pne1, e_pne2, e_zeq1, e_zeq2, e_zne1, e_zne2, e_feq1, e_fne1, e_feq2, e_fne2, e_seq, e_sne, e_ta1, e_ta2, Nat.zero_add, Nat.add_zero, Bool.not_true, Bool.not_false]
  obtain ⟨em, er⟩ := step9 (s := s) (kk := kk) (nb := nb) (c := c) (by omega)
  rw [em, er] at fin
  rw [er] at R
  refine R.code fun w4 R4 => ?_
  exact fin w4 m M F R4 hI hmt
end
end Go.Proofs.Qxb6500893aDoor
