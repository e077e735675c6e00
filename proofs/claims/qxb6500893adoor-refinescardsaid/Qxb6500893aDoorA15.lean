import Derived.Test.Qxb6500893aDoorA14
import Derived.Test.Qxb6500893aDoorShIv
namespace Go.Proofs.Qxb6500893aDoor
open Go.Sh Go.RowKit
set_option linter.unusedVariables false
set_option linter.unusedSimpArgs false

/-- the blocks in use lie in the arena -/
def LiveIn (L : List Lb) : Prop := ∀ x ∈ L, x.at_ + x.ws.length ≤ 4096
theorem resF_kind (L : List Lb) (o : Op) : (resF L o).kind = o.kind := by
  unfold resF
  repeat (first | rfl | split)
theorem resF_ok {s : Ws} {o : Op} (hg : LiveIn s.L) (hr : ∀ x ∈ s.L, 1 ≤ x.ws.length ∧ x.ws.length ≤ 4096) (hw : o.Wf) : CallOk s (resF s.L o) := by
  refine ⟨by rw [resF_kind]; exact hw.kind, ?_, ?_⟩
  · unfold resF
    repeat (first | exact m32_lt _ | exact (by decide : 0 < 4294967296) | split)
  · intro h7 hp
    rw [resF_kind] at h7
    by_cases hc : 0 ≤ o.b ∧ 0 < s.L.length
    · have hi : o.b.toNat % s.L.length < s.L.length := Nat.mod_lt _ hc.2
      have h1 := hr _ (List.getElem_mem hi)
      have h2 := hg _ (List.getElem_mem hi)
      have e : (resF s.L o).pick = ((o.b.toNat % s.L.length : Nat) : Int) ∧ (resF s.L o).b = (IntKind.i64.wrap (o.c.tmod (s.L[o.b.toNat % s.L.length].ws.length : Int) + (s.L[o.b.toNat % s.L.length].ws.length : Int))).tmod (s.L[o.b.toNat % s.L.length].ws.length : Int) := by
        unfold resF; rw [if_neg (by omega), if_neg (by omega), if_pos h7, if_pos hc, List.getElem?_eq_getElem hi]; exact ⟨rfl, rfl⟩
      rw [e.1, e.2]
      have hn : (0 : Int) < ((s.L[o.b.toNat % s.L.length].ws.length : Nat) : Int) := by omega
      have b1 := Int.tmod_lt_of_pos o.c hn
      have b0 := Int.lt_tmod_of_pos o.c hn
      rw [wrap64_id (by omega) (by omega), Int.tmod_eq_emod_of_nonneg (by omega)]
      exact ⟨_, hi, rfl, Int.emod_nonneg _ (by omega), Int.emod_lt_of_pos _ hn, h2⟩
    · have e : (resF s.L o).pick = -1 := by
        unfold resF; rw [if_neg (by omega), if_neg (by omega), if_pos h7, if_neg hc]; rfl
      omega

section
variable {W w w' : World} {v : Value} {ops : List Op} {K : Value → World → Prop} {k : Value → World → Prop} {s s' : Ws} {m m' m0 : Wm} {A : Ar} {sh : Shp} {c : Call} {o : Op}
theorem mid_live (kk : Nat) (hg : LiveIn s.L) : LiveIn (midF kk s c).s.L := by
  unfold midF
  split
  · unfold mOpen; split
    · intro x hx; cases hx
    · exact hg
  split
  · unfold mCreate; split <;> exact hg
  split
  · unfold mAlloc; split <;> exact hg
  split
  · unfold mFree; split <;> exact hg
  split
  · unfold mRel; split <;> exact hg
  split
  · unfold mOwn; split <;> exact hg
  split
  · unfold mStats; split <;> exact hg
  split
  · unfold mPoke; split
    · split
      · rename_i x hx
        intro y hy
        rcases List.mem_or_eq_of_mem_set hy with q | q
        · exact hg y q
        · subst q
          have := hg x (List.mem_of_getElem? hx)
          simpa using this
      · exact hg
    · exact hg
  split
  · unfold mScr; split <;> exact hg
  · exact hg
theorem real_live (kk nb : Nat) (ok : s.T.Ok) (hg : LiveIn s.L) : LiveIn (realF kk nb s c).L := by
  have h1 : LiveIn (midF kk (s00 s) c).s.L := mid_live kk hg
  unfold realF finS
  split
  · rename_i h0
    split
    · rename_i h2
      obtain ⟨i, hi, j, e1, e2, e3⟩ := mid_alloc (s := s00 s) ok h2 h0
      rw [(mid_T kk (s00 s) c h2).1, e1, pl_some hi, e3]
      intro x hx
      rcases List.mem_append.1 hx with q | q
      · exact h1 x q
      · rw [List.mem_singleton] at q
        subst q
        have hok := (ok.sh _ (List.getElem_mem hi)).1
        have hb := bk_le _ hok e2
        have hl := hok.lim
        show ((s00 s).T.ps[i]).bk j + (cut _ _ _).length ≤ 4096
        rw [cut_len]
        exact Nat.le_trans hb hl
    · split
      · intro x hx; exact h1 x (forget_mem hx)
      · exact h1
  · exact h1
theorem real_len (kk nb : Nat) : (realF kk nb s c).L.length ≤ s.L.length + 1 := by
  have h1 : (midF kk (s00 s) c).s.L.length ≤ s.L.length := mid_L kk (s00 s) c
  unfold realF finS
  split
  · split
    · split
      · simp; omega
      · exact Nat.le_succ_of_le h1
    · split
      · exact Nat.le_succ_of_le (Nat.le_trans forget_sub.length_le h1)
      · exact Nat.le_succ_of_le h1
  · exact Nat.le_succ_of_le h1

/-! ### the bounds -/
theorem sub64_tick {a t : Nat} (ha : a < 18446744073709551616) (ht : t < 18446744073709551616) : sub64 (tick a t) a = t := by unfold sub64 tick; omega
theorem alloc_st : ∃ n, n ≤ 11 ∧ (allocF A sh).2.2.st = tick A.st n := by
  unfold allocF
  split
  · exact ⟨2, by decide, by simp [ld, tick_add]⟩
  split
  · dsimp only
    split
    · exact ⟨5, by decide, by simp [ld, put, tick_add]⟩
    · exact ⟨4, by decide, by simp [ld, put, tick_add]⟩
  split
  · exact ⟨3, by decide, by simp [ld, tick_add]⟩
  split
  · exact ⟨7, by decide, by simp [ld, tick_add]⟩
  · dsimp only
    split
    · exact ⟨11, by decide, by simp [ld, put, tick_add]⟩
    · exact ⟨10, by decide, by simp [ld, put, tick_add]⟩
theorem free_st {a : Nat} : ∃ n, n ≤ 9 ∧ (freeF A sh a).2.st = tick A.st n := by
  unfold freeF
  split
  · exact ⟨1, by decide, by simp [ld, tick_add]⟩
  split
  · exact ⟨2, by decide, by simp [ld, tick_add]⟩
  split
  · exact ⟨5, by decide, by simp [ld, tick_add]⟩
  split
  · exact ⟨5, by decide, by simp [ld, tick_add]⟩
  · exact ⟨9, by decide, by simp [ld, put, tick_add]⟩
theorem stF_st : ∃ n, n ≤ 4 ∧ (stF A sh).2.2.st = tick A.st n := by
  unfold stF
  split
  · exact ⟨1, by decide, by simp [ld, tick_add]⟩
  split
  · exact ⟨4, by decide, by simp [ld, tick_add]⟩
  · exact ⟨4, by decide, by simp [ld, put, tick_add]⟩
def bndN (kind : Nat) : Nat := if kind = 2 then 11 else if kind = 3 then 9 else if kind = 4 then 13 else if kind = 5 then 4 else if kind = 6 then 4 else 18446744073709551615
theorem mid_st {kk : Nat} (hk : kk ≤ 4) (hA : s.A.st < 18446744073709551616) : sub64 (midF kk s c).s.A.st s.A.st ≤ bndN c.kind := by
  have z : sub64 s.A.st s.A.st = 0 := by unfold sub64; omega
  have fr : ∀ {A' : Ar} {n b : Nat}, n ≤ b → b ≤ 13 → A'.st = tick s.A.st n → sub64 A'.st s.A.st ≤ b := by
    intro A' n b h1 h2 e
    rw [e, sub64_tick hA (by omega)]; exact h1
  have big : ∀ x, sub64 x s.A.st ≤ 18446744073709551615 := by intro x; unfold sub64; omega
  unfold midF bndN
  by_cases k0 : c.kind = 0
  · rw [if_pos k0]; simp only [k0]; exact big _
  by_cases k1 : c.kind = 1
  · rw [if_neg k0, if_pos k1]; simp only [k1]; exact big _
  rw [if_neg k0, if_neg k1]
  by_cases k2 : c.kind = 2
  · rw [if_pos k2, if_pos k2]
    unfold mAlloc
    split
    · obtain ⟨n, h1, h2⟩ := alloc_st (A := s.A) (sh := by assumption); exact fr h1 (by decide) h2
    · rw [z]; decide
  rw [if_neg k2, if_neg k2]
  by_cases k3 : c.kind = 3
  · rw [if_pos k3, if_pos k3]
    unfold mFree
    split
    · obtain ⟨n, h1, h2⟩ := free_st (A := s.A) (sh := by assumption) (a := c.at_); exact fr h1 (by decide) h2
    · rw [z]; decide
  rw [if_neg k3, if_neg k3]
  by_cases k4 : c.kind = 4
  · rw [if_pos k4, if_pos k4]
    unfold mRel
    split
    · obtain ⟨n, h1, h2⟩ := free_st (A := tk s.A kk) (sh := by assumption) (a := c.at_)
      refine fr (n := kk + n) (by omega) (by decide) ?_
      show _ = _
      rw [h2]; unfold tk; simp only [tick_add]
    · exact fr (n := kk) (by omega) (by decide) rfl
  rw [if_neg k4, if_neg k4]
  by_cases k5 : c.kind = 5
  · rw [if_pos k5, if_pos k5]
    unfold mOwn
    split
    · exact fr (n := kk) (by omega) (by decide) rfl
    · exact fr (n := kk) (by omega) (by decide) rfl
  rw [if_neg k5, if_neg k5]
  by_cases k6 : c.kind = 6
  · rw [if_pos k6, if_pos k6]
    unfold mStats
    split
    · obtain ⟨n, h1, h2⟩ := stF_st (A := s.A) (sh := by assumption); exact fr h1 (by decide) h2
    · rw [z]; decide
  rw [if_neg k6, if_neg k6]
  exact big _

theorem bound_ok {kind st : Nat} (hk : kind < 256) (hst : st < 18446744073709551616) (h : st ≤ bndN kind) (hK : K (.bool true) w) : cl Tryd.prog 20 #[u8 kind, U64 st] K w := by
  apply c20
  unfold s20_p1 u8
  try simp only [e_fd, e_nck, e_pkt, e_pkf, e_gdtt, e_gdtf, e_gdft, e_gdff, e_ift, e_iff, e_not, e_ln, e_lnT, e_cp, e_cvi, e_ex20, e_ex21, e_ex30, e_ex31, e_ex32, e_add, e_sub, e_mul, e_quo, e_rem, e_and, e_or, e_xor, e_shl, e_shr, e_eql, e_neq, e_lss, e_leq, e_gtr, e_geq, e_beq, e_bne, e_peq1, e_peq2, e_pne1, e_pne2, e_zeq1, e_zeq2, e_zne1, e_zne2, e_feq1, e_fne1, e_feq2, e_fne2, e_seq, e_sne, e_ta1, e_ta2, Nat.zero_add, Nat.add_zero, Bool.not_true, Bool.not_false]
  unfold bndN at h
  by_cases k2 : kind = 2
  · rw [if_pos k2] at h
    have e : (((kind : Nat) : Int) == 2) = true := by rw [k2]; rfl
    have e2 : ((st : Nat) : Int) ≤ 11 := by omega
    simp only [e, e2, decide_true, e_fd, e_nck, e_pkt, e_pkf, e_gdtt, e_gdtf, e_gdft, e_gdff, e_ift, e_iff, e_not, e_ln, e_lnT, e_cp, e_cvi, e_ex20, e_ex21, e_ex30, e_ex31, e_ex32, e_add, e_sub, e_mul, e_quo, e_rem, e_and, e_or, e_xor, e_shl, e_shr, e_eql, e_neq, e_lss, e_leq, e_gtr, e_geq, e_beq, e_bne, e_peq1, e_peq2, e_pne1, e_pne2, e_zeq1, e_zeq2, e_zne1, e_zne2, e_feq1, e_fne1, e_feq2, e_fne2, e_seq, e_sne, e_ta1, e_ta2, Nat.zero_add, Nat.add_zero, Bool.not_true, Bool.not_false]; exact hK
  rw [if_neg k2] at h
  have e : (((kind : Nat) : Int) == 2) = false := by rw [beq_eq_false_iff_ne]; omega
  simp only [e, e_fd, e_nck, e_pkt, e_pkf, e_gdtt, e_gdtf, e_gdft, e_gdff, e_ift, e_iff, e_not, e_ln, e_lnT, e_cp, e_cvi, e_ex20, e_ex21, e_ex30, e_ex31, e_ex32, e_add, e_sub, e_mul, e_quo, e_rem, e_and, e_or, e_xor, e_shl, e_shr, e_eql, e_neq, e_lss, e_leq, e_gtr, e_geq, e_beq, e_bne, e_peq1, e_peq2, e_pne1, e_pne2, e_zeq1, e_zeq2, e_zne1, e_zne2, e_feq1, e_fne1, e_feq2, e_fne2, e_seq, e_sne, e_ta1, e_ta2, Nat.zero_add, Nat.add_zero, Bool.not_true, Bool.not_false]
  by_cases k3 : kind = 3
  · rw [if_pos k3] at h
    have e : (((kind : Nat) : Int) == 3) = true := by rw [k3]; rfl
    have e2 : ((st : Nat) : Int) ≤ 9 := by omega
    simp only [e, e2, decide_true, e_fd, e_nck, e_pkt, e_pkf, e_gdtt, e_gdtf, e_gdft, e_gdff, e_ift, e_iff, e_not, e_ln, e_lnT, e_cp, e_cvi, e_ex20, e_ex21, e_ex30, e_ex31, e_ex32, e_add, e_sub, e_mul, e_quo, e_rem, e_and, e_or, e_xor, e_shl, e_shr, e_eql, e_neq, e_lss, e_leq, e_gtr, e_geq, e_beq, e_bne, e_peq1, e_peq2, e_pne1, e_pne2, e_zeq1, e_zeq2, e_zne1, e_zne2, e_feq1, e_fne1, e_feq2, e_fne2, e_seq, e_sne, e_ta1, e_ta2, Nat.zero_add, Nat.add_zero, Bool.not_true, Bool.not_false]; exact hK
  rw [if_neg k3] at h
  have e : (((kind : Nat) : Int) == 3) = false := by rw [beq_eq_false_iff_ne]; omega
  simp only [e, e_fd, e_nck, e_pkt, e_pkf, e_gdtt, e_gdtf, e_gdft, e_gdff, e_ift, e_iff, e_not, e_ln, e_lnT, e_cp, e_cvi, e_ex20, e_ex21, e_ex30, e_ex31, e_ex32, e_add, e_sub, e_mul, e_quo, e_rem, e_and, e_or, e_xor, e_shl, e_shr, e_eql, e_neq, e_lss, e_leq, e_gtr, e_geq, e_beq, e_bne, e_peq1, e_peq2, e_pne1, e_pne2, e_zeq1, e_zeq2, e_zne1, e_zne2, e_feq1, e_fne1, e_feq2, e_fne2, e_seq, e_sne, e_ta1, e_ta2, Nat.zero_add, Nat.add_zero, Bool.not_true, Bool.not_false]
  by_cases k4 : kind = 4
  · rw [if_pos k4] at h
    have e : (((kind : Nat) : Int) == 4) = true := by rw [k4]; rfl
    have e2 : ((st : Nat) : Int) ≤ 13 := by omega
    simp only [e, e2, decide_true, e_fd, e_nck, e_pkt, e_pkf, e_gdtt, e_gdtf, e_gdft, e_gdff, e_ift, e_iff, e_not, e_ln, e_lnT, e_cp, e_cvi, e_ex20, e_ex21, e_ex30, e_ex31, e_ex32, e_add, e_sub, e_mul, e_quo, e_rem, e_and, e_or, e_xor, e_shl, e_shr, e_eql, e_neq, e_lss, e_leq, e_gtr, e_geq, e_beq, e_bne, e_peq1, e_peq2, e_pne1, e_pne2, e_zeq1, e_zeq2, e_zne1, e_zne2, e_feq1, e_fne1, e_feq2, e_fne2, e_seq, e_sne, e_ta1, e_ta2, Nat.zero_add, Nat.add_zero, Bool.not_true, Bool.not_false]; exact hK
  rw [if_neg k4] at h
  have e : (((kind : Nat) : Int) == 4) = false := by rw [beq_eq_false_iff_ne]; omega
  simp only [e, e_fd, e_nck, e_pkt, e_pkf, e_gdtt, e_gdtf, e_gdft, e_gdff, e_ift, e_iff, e_not, e_ln, e_lnT, e_cp, e_cvi, e_ex20, e_ex21, e_ex30, e_ex31, e_ex32, e_add, e_sub, e_mul, e_quo, e_rem, e_and, e_or, e_xor, e_shl, e_shr, e_eql, e_neq, e_lss, e_leq, e_gtr, e_geq, e_beq, e_bne, e_peq1, e_peq2, e_pne1, e_pne2, e_zeq1, e_zeq2, e_zne1, e_zne2, e_feq1, e_fne1, e_feq2, e_fne2, e_seq, e_sne, e_ta1, e_ta2, Nat.zero_add, Nat.add_zero, Bool.not_true, Bool.not_false]
  by_cases k5 : kind = 5
  · rw [if_pos k5] at h
    have e : (((kind : Nat) : Int) == 5) = true := by rw [k5]; rfl
    have e2 : ((st : Nat) : Int) ≤ 4 := by omega
    simp only [e, e2, decide_true, e_fd, e_nck, e_pkt, e_pkf, e_gdtt, e_gdtf, e_gdft, e_gdff, e_ift, e_iff, e_not, e_ln, e_lnT, e_cp, e_cvi, e_ex20, e_ex21, e_ex30, e_ex31, e_ex32, e_add, e_sub, e_mul, e_quo, e_rem, e_and, e_or, e_xor, e_shl, e_shr, e_eql, e_neq, e_lss, e_leq, e_gtr, e_geq, e_beq, e_bne, e_peq1, e_peq2, e_pne1, e_pne2, e_zeq1, e_zeq2, e_zne1, e_zne2, e_feq1, e_fne1, e_feq2, e_fne2, e_seq, e_sne, e_ta1, e_ta2, Nat.zero_add, Nat.add_zero, Bool.not_true, Bool.not_false]; exact hK
  rw [if_neg k5] at h
  have e : (((kind : Nat) : Int) == 5) = false := by rw [beq_eq_false_iff_ne]; omega
  simp only [e, e_fd, e_nck, e_pkt, e_pkf, e_gdtt, e_gdtf, e_gdft, e_gdff, e_ift, e_iff, e_not, e_ln, e_lnT, e_cp, e_cvi, e_ex20, e_ex21, e_ex30, e_ex31, e_ex32, e_add, e_sub, e_mul, e_quo, e_rem, e_and, e_or, e_xor, e_shl, e_shr, e_eql, e_neq, e_lss, e_leq, e_gtr, e_geq, e_beq, e_bne, e_peq1, e_peq2, e_pne1, e_pne2, e_zeq1, e_zeq2, e_zne1, e_zne2, e_feq1, e_fne1, e_feq2, e_fne2, e_seq, e_sne, e_ta1, e_ta2, Nat.zero_add, Nat.add_zero, Bool.not_true, Bool.not_false]
  by_cases k6 : kind = 6
  · rw [if_pos k6] at h
    have e : (((kind : Nat) : Int) == 6) = true := by rw [k6]; rfl
    have e2 : ((st : Nat) : Int) ≤ 4 := by omega
    simp only [e, e2, decide_true, e_fd, e_nck, e_pkt, e_pkf, e_gdtt, e_gdtf, e_gdft, e_gdff, e_ift, e_iff, e_not, e_ln, e_lnT, e_cp, e_cvi, e_ex20, e_ex21, e_ex30, e_ex31, e_ex32, e_add, e_sub, e_mul, e_quo, e_rem, e_and, e_or, e_xor, e_shl, e_shr, e_eql, e_neq, e_lss, e_leq, e_gtr, e_geq, e_beq, e_bne, e_peq1, e_peq2, e_pne1, e_pne2, e_zeq1, e_zeq2, e_zne1, e_zne2, e_feq1, e_fne1, e_feq2, e_fne2, e_seq, e_sne, e_ta1, e_ta2, Nat.zero_add, Nat.add_zero, Bool.not_true, Bool.not_false]; exact hK
  have e : (((kind : Nat) : Int) == 6) = false := by rw [beq_eq_false_iff_ne]; omega
  simp only [e, e_fd, e_nck, e_pkt, e_pkf, e_gdtt, e_gdtf, e_gdft, e_gdff, e_ift, e_iff, e_not, e_ln, e_lnT, e_cp, e_cvi, e_ex20, e_ex21, e_ex30, e_ex31, e_ex32, e_add, e_sub, e_mul, e_quo, e_rem, e_and, e_or, e_xor, e_shl, e_shr, e_eql, e_neq, e_lss, e_leq, e_gtr, e_geq, e_beq, e_bne, e_peq1, e_peq2, e_pne1, e_pne2, e_zeq1, e_zeq2, e_zne1, e_zne2, e_feq1, e_fne1, e_feq2, e_fne2, e_seq, e_sne, e_ta1, e_ta2, Nat.zero_add, Nat.add_zero, Bool.not_true, Bool.not_false]
  exact hK

theorem LSt.rng (h : LSt W w m s) : ∀ x ∈ s.L, 1 ≤ x.ws.length ∧ x.ws.length ≤ 4096 := fun x hx => ⟨(h.wd.live.rng x hx).2.1, (h.wd.live.rng x hx).2.2.1⟩
/-- a step is worked out into a new block -/
theorem round_head {t5 : Nat} (h : LSt W w m s) (r5 : Row w t5 28 (opc o)) (hw : o.Wf) (hL : s.L.length ≤ 900000)
    (hk : ∀ w' t6, LSt W w' m s → Row w' t6 33 (cac (resF s.L o)) → Row w' t5 28 (opc o) → Kp (fun _ => False) w w' → w.heap.size ≤ t6 → k (P t6 0) w') :
    ldn 4 (P t5 0) (fun t21 w => cl Tryd.prog 13 #[P m.wdb 0, t21] (fun t22 w => nw 33 #[(.int .u8 0), (.int .i64 0), (.int .u32 0), (.int .i64 0), (.int .i64 0), (.int .i64 0)] (fun t6 w => stn 6 t6 t22 (fun w => k t6 w) w) w) w) w := by
  refine ldn_r r5 (show 0 + 4 ≤ 4 by decide) ?_
  refine resolve_ok h.wd.row h.wd.live (by omega) hw.kind fun w1 hk1 => ?_
  refine nw_r fun w2 r2 hk2 hz2 => ?_
  refine stn_r (cs := cac (resF s.L o)) r2 rfl (show 0 + 6 ≤ 6 by decide) rfl fun w3 r3 hk3 hz3 => ?_
  have sz := hk1.size
  have k03 : Kp (fun _ => False) w w3 := (hk1.trans hk2).then hk3 (fun b hb (q : b = _) => by omega)
  exact hk w3 _ (h.kp' k03) r3 (k03.row' r5) k03 (by omega)
end
end Go.Proofs.Qxb6500893aDoor
