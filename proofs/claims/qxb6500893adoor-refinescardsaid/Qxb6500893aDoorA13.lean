import Derived.Test.Qxb6500893aDoorA12
namespace Go.Proofs.Qxb6500893aDoor
open Go.Sh Go.RowKit
set_option linter.unusedVariables false
set_option linter.unusedSimpArgs false

/-- what a call must bring along -/
structure CallOk (s : Ws) (c : Call) : Prop where
  k8 : c.kind < 256
  at_ : c.at_ < 4294967296
  poke : c.kind = 7 → 0 ≤ c.pick → ∃ i, ∃ hi : i < s.L.length, c.pick = (i : Int) ∧ 0 ≤ c.b ∧ c.b < s.L[i].ws.length ∧ s.L[i].at_ + s.L[i].ws.length ≤ 4096

section
variable {W w w' : World} {K : Value → World → Prop} {C : Nat → Prop} {s s' : Ws} {m m' m0 : Wm} {L L' L0 : List Lb} {A : Ar} {T : Tb} {b t3 t4 t5 : Nat} {c : Call} {l5 : List Value} {t6 : Value}
theorem rows_set_same {α : Type} {f : α → List Value} (xs : List α) (i : Nat) (h : i < xs.length) (y : α) (e : f y = f xs[i]) : rows f (xs.set i y) = rows f xs := by
  rw [rows_set_list xs i h y, rows_split xs i h, e]
theorem Lv.poke {w w' : World} {lob : Option Nat} {lv : Value} {L : List Lb} {i j v : Nat} (h : Lv w lob lv L) (hi : i < L.length) (hj : j < L[i].ws.length) (hv : v < 18446744073709551616) (hk : Kp (fun b => b = L[i].b) w w') (hr : Row w' L[i].b 71 ((L[i].ws.set j v).map U64)) :
    Lv w' lob lv (L.set i { L[i] with ws := L[i].ws.set j v }) := by
  have el : lbV { L[i] with ws := L[i].ws.set j v } = lbV L[i] := by unfold lbV; simp
  have hb : (L.set i { L[i] with ws := L[i].ws.set j v }).map (·.b) = L.map (·.b) := by
    rw [List.map_set]
    have : ({ L[i] with ws := L[i].ws.set j v } : Lb).b = (L.map (·.b))[i]'(by simpa using hi) := by simp
    rw [this, List.set_getElem_self]
  refine ⟨?_, ?_, by rw [hb]; exact h.nd, ?_⟩
  · have h0 := h.sl
    cases lob with
    | none => obtain ⟨e1, e2⟩ := h0; rw [e2] at hi; simp at hi
    | some b =>
      obtain ⟨cap, junk, e1, e2, e3, e4⟩ := h0
      refine ⟨cap, junk, by rw [List.length_set]; exact e1, by rw [List.length_set]; exact e2, by rw [List.length_set]; exact e3, ?_⟩
      rw [rows_set_same _ _ hi _ el]
      exact hk.row e4 (fun (q : _ = _) => row_ne e4 (h.rw _ (List.getElem_mem hi)) (by decide) q)
  · intro x hx
    obtain ⟨k, hk', rfl⟩ := List.getElem_of_mem hx
    rw [List.length_set] at hk'
    by_cases e : i = k
    · subst e
      rw [List.getElem_set_self]
      exact hr
    · rw [List.getElem_set_ne e]
      refine hk.row (h.rw _ (List.getElem_mem hk')) (fun (q : _ = _) => ?_)
      have nd := List.pairwise_iff_getElem.1 h.nd
      rcases Nat.lt_or_gt_of_ne e with hlt | hlt
      · exact nd i k (by simpa using hi) (by simpa using hk') hlt (by simpa using q.symm)
      · exact nd k i (by simpa using hk') (by simpa using hi) hlt (by simpa using q)
  · intro x hx
    obtain ⟨k, hk', rfl⟩ := List.getElem_of_mem hx
    rw [List.length_set] at hk'
    by_cases e : i = k
    · subst e
      rw [List.getElem_set_self]
      have r := h.rng _ (List.getElem_mem hi)
      refine ⟨fun u hu => ?_, by simpa using r.2.1, by simpa using r.2.2.1, r.2.2.2⟩
      rcases List.mem_or_eq_of_mem_set hu with q | q
      · exact r.1 u q
      · omega
    · rw [List.getElem_set_ne e]
      exact h.rng _ (List.getElem_mem hk')

theorem real_poke (R : Rc W m0 L0 t3 t4 t5 c (outV 0 (-1) 0 q0 0 nilS) w m s) (hsd : s.A.sd = []) (hc : CallOk s c) (k7 : c.kind = 7) (fin : ∀ w' m', Rc W m0 L0 t3 t4 t5 c (outV (mPoke s c).code (mPoke s c).id (mPoke s c).at_ (mPoke s c).q 0 nilS) w' m' (mPoke s c).s → s14_p9 K (P m0.wdb 0) (P t3 0) (P t4 0) (P t5 0) t6 w') :
    s14_p23 K (P m0.wdb 0) (P t3 0) (P t4 0) (P t5 0) t6 w := by
  unfold s14_p23
  try simp only [e_fd, e_nck, e_pkt, e_pkf, e_gdtt, e_gdtf, e_gdft, e_gdff, e_ift, e_iff, e_not, e_ln, e_lnT, e_cp, e_cvi, e_ex20, e_ex21, e_ex30, e_ex31, e_ex32, e_add, e_sub, e_mul, e_quo, e_rem, e_and, e_or, e_xor, e_shl, e_shr, e_eql, e_neq, e_lss, e_leq, e_gtr, e_geq, e_beq, e_bne, e_peq1, e_peq2, e_pne1, e_pne2, e_zeq1, e_zeq2, e_zne1, e_zne2, e_feq1, e_fne1, e_feq2, e_fne2, e_seq, e_sne, e_ta1, e_ta2, Nat.zero_add, Nat.add_zero, Bool.not_true, Bool.not_false]
  refine ld1_r R.r3 rfl ?_
  unfold s14_p22
  try simp only [e_fd, e_nck, e_pkt, e_pkf, e_gdtt, e_gdtf, e_gdft, e_gdff, e_ift, e_iff, e_not, e_ln, e_lnT, e_cp, e_cvi, e_ex20, e_ex21, e_ex30, e_ex31, e_ex32, e_add, e_sub, e_mul, e_quo, e_rem, e_and, e_or, e_xor, e_shl, e_shr, e_eql, e_neq, e_lss, e_leq, e_gtr, e_geq, e_beq, e_bne, e_peq1, e_peq2, e_pne1, e_pne2, e_zeq1, e_zeq2, e_zne1, e_zne2, e_feq1, e_fne1, e_feq2, e_fne2, e_seq, e_sne, e_ta1, e_ta2, Nat.zero_add, Nat.add_zero, Bool.not_true, Bool.not_false]
  by_cases hp : 0 ≤ c.pick
  · simp only [hp, decide_true, e_fd, e_nck, e_pkt, e_pkf, e_gdtt, e_gdtf, e_gdft, e_gdff, e_ift, e_iff, e_not, e_ln, e_lnT, e_cp, e_cvi, e_ex20, e_ex21, e_ex30, e_ex31, e_ex32, e_add, e_sub, e_mul, e_quo, e_rem, e_and, e_or, e_xor, e_shl, e_shr, e_eql, e_neq, e_lss, e_leq, e_gtr, e_geq, e_beq, e_bne, e_peq1, e_peq2, e_pne1, e_pne2, e_zeq1, e_zeq2, e_zne1, e_zne2, e_feq1, e_fne1, e_feq2, e_fne2, e_seq, e_sne, e_ta1, e_ta2, Nat.zero_add, Nat.add_zero, Bool.not_true, Bool.not_false]
    obtain ⟨i, hi, ei, hb0, hb1, hat⟩ := hc.poke k7 hp
    obtain ⟨j, hj⟩ : ∃ j : Nat, c.b = (j : Int) := ⟨c.b.toNat, by omega⟩
    have hj1 : j < s.L[i].ws.length := by omega
    have rng := R.wd.live.rng _ (List.getElem_mem hi)
    have e : mPoke s c = ⟨0, -1, 0, q0, ⟨put s.A (s.L[i].at_ + j) (m64 c.a), s.T, s.L.set i { s.L[i] with ws := s.L[i].ws.set j (m64 c.a) }⟩⟩ := by
      unfold mPoke; rw [if_pos hp, ei, hj, Int.toNat_natCast, Int.toNat_natCast, List.getElem?_eq_getElem hi]
    rw [e] at fin
    unfold s14_p21 s14_p21_d
    have R := R.kp' (w' := drw w) kp_drw
    generalize drw w = w at R ⊢
    try simp only [e_fd, e_nck, e_pkt, e_pkf, e_gdtt, e_gdtf, e_gdft, e_gdff, e_ift, e_iff, e_not, e_ln, e_lnT, e_cp, e_cvi, e_ex20, e_ex21, e_ex30, e_ex31, e_ex32, e_add, e_sub, e_mul, e_quo, e_rem, e_and, e_or, e_xor, e_shl, e_shr, e_eql, e_neq, e_lss, e_leq, e_gtr, e_geq, e_beq, e_bne, e_peq1, e_peq2, e_pne1, e_pne2, e_zeq1, e_zeq2, e_zne1, e_zne2, e_feq1, e_fne1, e_feq2, e_fne2, e_seq, e_sne, e_ta1, e_ta2, Nat.zero_add, Nat.add_zero, Bool.not_true, Bool.not_false]
    refine ld1_r R.row rfl ?_
    refine ld1_r R.r3 rfl ?_
    rw [ei]
    refine R.wd.live.sl.ix lbV_len hi fun lb l1 hlb hrl1 hj1' hll1 _ => ?_
    unfold s14_p20 s14_p20_d
    have R := R.kp' (w' := drw w) kp_drw
    have hrl2 : Row (drw w) lb 66 l1 := hrl1.drw
    generalize drw w = w at R hrl2 ⊢
    try simp only [e_fd, e_nck, e_pkt, e_pkf, e_gdtt, e_gdtf, e_gdft, e_gdff, e_ift, e_iff, e_not, e_ln, e_lnT, e_cp, e_cvi, e_ex20, e_ex21, e_ex30, e_ex31, e_ex32, e_add, e_sub, e_mul, e_quo, e_rem, e_and, e_or, e_xor, e_shl, e_shr, e_eql, e_neq, e_lss, e_leq, e_gtr, e_geq, e_beq, e_bne, e_peq1, e_peq2, e_pne1, e_pne2, e_zeq1, e_zeq2, e_zne1, e_zne2, e_feq1, e_fne1, e_feq2, e_fne2, e_seq, e_sne, e_ta1, e_ta2, Nat.zero_add, Nat.add_zero, Bool.not_true, Bool.not_false]
    refine ld1_r R.row rfl ?_
    refine ld1_r hrl2 (v := U32 s.L[i].at_) (by rw [hj1' 1 (by decide)]; rfl) ?_
    refine ld1_r R.r3 rfl ?_
    try simp only [e_fd, e_nck, e_pkt, e_pkf, e_gdtt, e_gdtf, e_gdft, e_gdff, e_ift, e_iff, e_not, e_ln, e_lnT, e_cp, e_cvi, e_ex20, e_ex21, e_ex30, e_ex31, e_ex32, e_add, e_sub, e_mul, e_quo, e_rem, e_and, e_or, e_xor, e_shl, e_shr, e_eql, e_neq, e_lss, e_leq, e_gtr, e_geq, e_beq, e_bne, e_peq1, e_peq2, e_pne1, e_pne2, e_zeq1, e_zeq2, e_zne1, e_zne2, e_feq1, e_fne1, e_feq2, e_fne2, e_seq, e_sne, e_ta1, e_ta2, Nat.zero_add, Nat.add_zero, Bool.not_true, Bool.not_false]
    have e1 : IntKind.u32.wrap (((s.L[i].at_ : Nat) : Int) + IntKind.u32.wrap c.b) = ((s.L[i].at_ + j : Nat) : Int) := by
      rw [hj, w32 (by omega), show ((s.L[i].at_ : Nat) : Int) + ((j : Nat) : Int) = ((s.L[i].at_ + j : Nat) : Int) by omega, w32 (by omega)]
    refine ld1_r R.r3 rfl ?_
    try simp only [e_fd, e_nck, e_pkt, e_pkf, e_gdtt, e_gdtf, e_gdft, e_gdff, e_ift, e_iff, e_not, e_ln, e_lnT, e_cp, e_cvi, e_ex20, e_ex21, e_ex30, e_ex31, e_ex32, e_add, e_sub, e_mul, e_quo, e_rem, e_and, e_or, e_xor, e_shl, e_shr, e_eql, e_neq, e_lss, e_leq, e_gtr, e_geq, e_beq, e_bne, e_peq1, e_peq2, e_pne1, e_pne2, e_zeq1, e_zeq2, e_zne1, e_zne2, e_feq1, e_fne1, e_feq2, e_fne2, e_seq, e_sne, e_ta1, e_ta2, Nat.zero_add, Nat.add_zero, Bool.not_true, Bool.not_false]
    rw [wrapM64, e1]
    refine store_ok R.arn (by omega) (m64_lt _) (by rw [hsd]; decide) fun w1 M1 a1 st1 => ?_
    have R1 := R.setA a1 st1
    have hrl3 : Row w1 lb 66 l1 := by
      refine st1.kp.row hrl2 (fun q => ?_)
      rw [← R.st.ab] at q
      exact R.wd.arn.ntag hrl2 (by decide) (by decide) (by decide) q
    refine st1_r R1.r5 (show 0 < 9 by decide) rfl fun w2 r2 hk2 hz2 => ?_
    have R2 := R1.out hk2 r2
    have hrl4 := hk2.row hrl3 (fun (q : _ = _) => row_ne hrl3 R1.r5 (by decide) q)
    unfold s14_p19 s14_p19_d
    have R3 := R2.kp' (w' := drw w2) kp_drw
    have hrl5 : Row (drw w2) lb 66 l1 := hrl4.drw
    generalize drw w2 = w3 at R3 hrl5 ⊢
    try simp only [e_fd, e_nck, e_pkt, e_pkf, e_gdtt, e_gdtf, e_gdft, e_gdff, e_ift, e_iff, e_not, e_ln, e_lnT, e_cp, e_cvi, e_ex20, e_ex21, e_ex30, e_ex31, e_ex32, e_add, e_sub, e_mul, e_quo, e_rem, e_and, e_or, e_xor, e_shl, e_shr, e_eql, e_neq, e_lss, e_leq, e_gtr, e_geq, e_beq, e_bne, e_peq1, e_peq2, e_pne1, e_pne2, e_zeq1, e_zeq2, e_zne1, e_zne2, e_feq1, e_fne1, e_feq2, e_fne2, e_seq, e_sne, e_ta1, e_ta2, Nat.zero_add, Nat.add_zero, Bool.not_true, Bool.not_false]
    refine ld1_r hrl5 (v := .slice (some ⟨s.L[i].b, 0, none⟩) s.L[i].ws.length s.L[i].ws.length) (by rw [hj1' 2 (by decide)]; rfl) ?_
    refine ld1_r R3.r3 rfl ?_
    refine ld1_r R3.r3 rfl ?_
    try simp only [e_fd, e_nck, e_pkt, e_pkf, e_gdtt, e_gdtf, e_gdft, e_gdff, e_ift, e_iff, e_not, e_ln, e_lnT, e_cp, e_cvi, e_ex20, e_ex21, e_ex30, e_ex31, e_ex32, e_add, e_sub, e_mul, e_quo, e_rem, e_and, e_or, e_xor, e_shl, e_shr, e_eql, e_neq, e_lss, e_leq, e_gtr, e_geq, e_beq, e_bne, e_peq1, e_peq2, e_pne1, e_pne2, e_zeq1, e_zeq2, e_zne1, e_zne2, e_feq1, e_fne1, e_feq2, e_fne2, e_seq, e_sne, e_ta1, e_ta2, Nat.zero_add, Nat.add_zero, Bool.not_true, Bool.not_false]
    rw [wrapM64, hj]
    refine ix_1 hj1 ?_
    have rw3 : Row w3 s.L[i].b 71 (s.L[i].ws.map U64) := R3.wd.live.rw _ (List.getElem_mem hi)
    refine st1_r rw3 (by simpa using hj1) rfl fun w4 r4 hk4 hz4 => ?_
    have r4' : Row w4 s.L[i].b 71 ((s.L[i].ws.set j (m64 c.a)).map U64) := by rw [List.map_set]; exact r4
    have lv4 : Lv w4 m.lob m.lv (s.L.set i { s.L[i] with ws := s.L[i].ws.set j (m64 c.a) }) := Lv.poke R3.wd.live hi hj1 (m64_lt _) hk4 r4'
    have nwb := R3.wd.nwb _ (List.getElem_mem hi)
    have no : ∀ {t b l}, Row w3 b t l → t ≠ 71 → ¬ b = s.L[i].b := fun hr ht q => row_ne hr rw3 ht q
    obtain ⟨junk, hjk, hpp⟩ := R3.wd.tbl.pools
    have ebs : ∀ y ∈ s.L.set i { s.L[i] with ws := s.L[i].ws.set j (m64 c.a) }, ∃ x ∈ s.L, x.b = y.b := by
      intro y hy
      rcases List.mem_or_eq_of_mem_set hy with q | q
      · exact ⟨y, q, rfl⟩
      · exact ⟨s.L[i], List.getElem_mem hi, by rw [q]⟩
    have wd4 : Wd w4 { m with M := M1 } ⟨put s.A (s.L[i].at_ + j) (m64 c.a), s.T, s.L.set i { s.L[i] with ws := s.L[i].ws.set j (m64 c.a) }⟩ := by
      refine ⟨hk4.row R3.wd.row (no R3.wd.row (by decide)), R3.wd.arn.frame hk4 (fun b hb (q : b = _) => ?_), R3.wd.tbl.kp hk4 (no R3.wd.tbl.row (by decide)) (no hpp (by decide)), R3.wd.ok, lv4, fun y hy => ?_⟩
      · subst q
        rcases hb with q | q | q
        · exact row_ne rw3 R3.wd.arn.row (by decide) q
        · exact nwb q
        · obtain ⟨l', hr'⟩ := R3.wd.arn.sd.row q; exact row_ne rw3 hr' (by decide) rfl
      · obtain ⟨x, hx, ex⟩ := ebs y hy
        rw [← ex]; exact R3.wd.nwb x hx
    have hko : Kp (OwnW { m with M := M1 } s.L) w3 w4 := hk4.mono fun b _ q => .inr (.inr (.inr (.inr (.inr ⟨s.L[i], List.getElem_mem hi, q.symm⟩))))
    refine fin w4 _ (R3.set wd4 (R3.st.step hko (fun b q => .inl q) (fun b q => .inl ?_) rfl rfl rfl) hko R3.zs)
    rcases q with q | q | q | q | q | ⟨y, hy, q⟩
    · exact .inl q
    · exact .inr (.inl q)
    · exact .inr (.inr (.inl q))
    · exact .inr (.inr (.inr (.inl q)))
    · exact .inr (.inr (.inr (.inr (.inl q))))
    · obtain ⟨x, hx, ex⟩ := ebs y hy
      exact .inr (.inr (.inr (.inr (.inr ⟨x, hx, by rw [ex]; exact q⟩))))
  · simp only [hp, decide_false, e_fd, e_nck, e_pkt, e_pkf, e_gdtt, e_gdtf, e_gdft, e_gdff, e_ift, e_iff, e_not, e_ln, e_lnT, e_cp, e_cvi, e_ex20, e_ex21, e_ex30, e_ex31, e_ex32, e_add, e_sub, e_mul, e_quo, e_rem, e_and, e_or, e_xor, e_shl, e_shr, e_eql, e_neq, e_lss, e_leq, e_gtr, e_geq, e_beq, e_bne, e_peq1, e_peq2, e_pne1, e_pne2, e_zeq1, e_zeq2, e_zne1, e_zne2, e_feq1, e_fne1, e_feq2, e_fne2, e_seq, e_sne, e_ta1, e_ta2, Nat.zero_add, Nat.add_zero, Bool.not_true, Bool.not_false]
    have e : mPoke s c = ⟨0, -1, 0, q0, s⟩ := by unfold mPoke; rw [if_neg hp]
    rw [e] at fin
    exact fin w m R

def s00 (s : Ws) : Ws := { s with A := A0 s.A }
/-- a step against the real layer -/
def realF (k nb : Nat) (s : Ws) (c : Call) : Ws := finS nb (midF k (s00 s) c).s (midF k (s00 s) c).code (midF k (s00 s) c).at_ c
theorem allocF_at (sh : Shp) (hok : sh.Ok) (h0 : (allocF A sh).2.1 = 0) : ∃ i, i < sh.n ∧ (allocF A sh).1 = sh.bk i := by
  unfold allocF at h0 ⊢
  split at h0
  · cases h0
  · split at h0
    · cases h0
    · split at h0
      · cases h0
      · split at h0
        · cases h0
        · rename_i h1 h2 h3 h4
          rw [if_neg h1, if_neg h2, if_neg h3, if_neg h4]
          exact ⟨_, by omega, rfl⟩
theorem bk_le {i : Nat} (sh : Shp) (hok : sh.Ok) (hi : i < sh.n) : sh.bk i + sh.bw ≤ sh.fin := by
  have h1 := hok.fin
  have h2 : (i + 1) * sh.bw ≤ sh.n * sh.bw := Nat.mul_le_mul_right _ hi
  rw [Nat.add_mul, Nat.one_mul] at h2
  unfold Shp.bk
  omega

theorem mid_T (k : Nat) (s : Ws) (c : Call) (h2 : c.kind = 2) : (midF k s c).s.T = s.T ∧ (midF k s c).s.L = s.L := by
  unfold midF
  rw [if_neg (by omega), if_neg (by omega), if_pos h2]
  unfold mAlloc
  split <;> exact ⟨rfl, rfl⟩
theorem mid_L (k : Nat) (s : Ws) (c : Call) : (midF k s c).s.L.length ≤ s.L.length := by
  unfold midF
  split
  · unfold mOpen; split
    · exact Nat.zero_le _
    · exact Nat.le_refl _
  split
  · unfold mCreate; split <;> exact Nat.le_refl _
  split
  · unfold mAlloc; split <;> exact Nat.le_refl _
  split
  · unfold mFree; split <;> exact Nat.le_refl _
  split
  · unfold mRel; split <;> exact Nat.le_refl _
  split
  · unfold mOwn; split <;> exact Nat.le_refl _
  split
  · unfold mStats; split <;> exact Nat.le_refl _
  split
  · unfold mPoke; split
    · split
      · simp
      · exact Nat.le_refl _
    · exact Nat.le_refl _
  split
  · unfold mScr; split <;> exact Nat.le_refl _
  · exact Nat.le_refl _
theorem mid_alloc {k : Nat} {s : Ws} {c : Call} (ok : s.T.Ok) (h2 : c.kind = 2) (h0 : (midF k s c).code = 0) : ∃ i, ∃ hi : i < s.T.ps.length, ∃ j, c.pool = (i : Int) ∧ j < s.T.ps[i].n ∧ (midF k s c).at_ = s.T.ps[i].bk j := by
  unfold midF at h0 ⊢
  rw [if_neg (by omega), if_neg (by omega), if_pos h2] at h0 ⊢
  unfold mAlloc at h0 ⊢
  by_cases h : 0 ≤ c.pool ∧ c.pool < s.T.ps.length
  · obtain ⟨i, hi⟩ : ∃ i : Nat, c.pool = (i : Int) := ⟨c.pool.toNat, by omega⟩
    have hil : i < s.T.ps.length := by omega
    rw [hi, pl_some hil] at h0 ⊢
    obtain ⟨j, hj, e⟩ := allocF_at _ (ok.sh _ (List.getElem_mem hil)).1 h0
    exact ⟨i, hil, j, rfl, hj, e⟩
  · rw [pl_none h] at h0; cases h0

theorem real_ok (h : Wd w m s) (hc : CallOk s c) (hL : s.L.length ≤ 900000)
    (hK : ∀ w' m' k nb sob sv, k ≤ 4 → Wd w' m' (realF k nb s c) → StW w w' m s.L m' (realF k nb s c).L → Sl u1 1 w' 31 sob sv (midF k (s00 s) c).s.A.sd → (∀ b, sob = some b → w.heap.size ≤ b ∧ ¬ OwnW m' (realF k nb s c).L b) →
      K (.agg (outV (midF k (s00 s) c).code (midF k (s00 s) c).id (midF k (s00 s) c).at_ (midF k (s00 s) c).q (sub64 (midF k (s00 s) c).s.A.st s.A.st) sv).toArray) w') : cl Tryd.prog 14 #[P m.wdb 0, .agg (cac c).toArray] K w := by
  apply c14
  unfold s14_p44
  refine nw_r fun w1 r1 hk1 hz1 => ?_
  refine nw_r fun w2 r2 hk2 hz2 => ?_
  refine bdq_r (l := outV 0 (-1) 0 q0 0 nilS) rfl ?_
  refine nw_r fun w3 r3 hk3 hz3 => ?_
  refine stn_r (cs := outV 0 (-1) 0 q0 0 nilS) r3 rfl (show 0 + 9 ≤ 9 by decide) rfl fun w4 r4 hk4 hz4 => ?_
  have k03 : Kp (fun _ => False) w w3 := (hk1.trans hk2).trans hk3
  have k04 : Kp (fun _ => False) w w4 := k03.then hk4 (fun k hk (q : k = _) => by omega)
  have ra4 : Row w4 w.heap.size 33 (cac c) := hk4.row (hk3.row' (hk2.row' r1)) (fun (q : _ = _) => by omega)
  have rb4 : Row w4 w1.heap.size 41 (outV 0 0 0 q0 0 nilS) := hk4.row (hk3.row' r2) (fun (q : _ = _) => by omega)
  have rc4 : Row w4 w2.heap.size 41 (outV 0 (-1) 0 q0 0 nilS) := r4
  have h4 := h.kp' k04
  try simp only [e_fd, e_nck, e_pkt, e_pkf, e_gdtt, e_gdtf, e_gdft, e_gdff, e_ift, e_iff, e_not, e_ln, e_lnT, e_cp, e_cvi, e_ex20, e_ex21, e_ex30, e_ex31, e_ex32, e_add, e_sub, e_mul, e_quo, e_rem, e_and, e_or, e_xor, e_shl, e_shr, e_eql, e_neq, e_lss, e_leq, e_gtr, e_geq, e_beq, e_bne, e_peq1, e_peq2, e_pne1, e_pne2, e_zeq1, e_zeq2, e_zne1, e_zne2, e_feq1, e_fne1, e_feq2, e_fne2, e_seq, e_sne, e_ta1, e_ta2, Nat.zero_add, Nat.add_zero, Bool.not_true, Bool.not_false]
  refine ld1_r h4.row rfl ?_
  refine take_ok h4.arn fun w5 a5 sl5 hk5 => ?_
  have sA5 : StA w4 w5 m.ab m.M { m.M with sv := nilS, sob := none } := ⟨hk5.mono (fun b _ q => .inl q), rfl, fun b hb => by cases hb⟩
  have h5 := h4.setA a5 sA5
  have st5 := ((StW.refl w m s.L).new0 k04).setA sA5
  have nt : ∀ {t b l}, Row w4 b t l → t ≠ 114 → Row w5 b t l := fun hr ht => hk5.row hr (fun (q : _ = _) => row_ne hr h4.arn.row ht q)
  have R : Rc w m s.L w.heap.size w1.heap.size w2.heap.size c (outV 0 (-1) 0 q0 0 nilS) w5 { m with M := { m.M with sv := nilS, sob := none } } (s00 s) :=
    ⟨h5, st5, nt ra4 (by decide), nt rb4 (by decide), nt rc4 (by decide), by omega, Nat.le_refl _, by omega, by omega, fun b hb => by cases hb⟩
  have hsd : (s00 s).A.sd = [] := rfl
  have hc' : CallOk (s00 s) c := ⟨hc.k8, hc.at_, hc.poke⟩
  have hA := h.arn.st
  try simp only [e_fd, e_nck, e_pkt, e_pkf, e_gdtt, e_gdtf, e_gdft, e_gdff, e_ift, e_iff, e_not, e_ln, e_lnT, e_cp, e_cvi, e_ex20, e_ex21, e_ex30, e_ex31, e_ex32, e_add, e_sub, e_mul, e_quo, e_rem, e_and, e_or, e_xor, e_shl, e_shr, e_eql, e_neq, e_lss, e_leq, e_gtr, e_geq, e_beq, e_bne, e_peq1, e_peq2, e_pne1, e_pne2, e_zeq1, e_zeq2, e_zne1, e_zne2, e_feq1, e_fne1, e_feq2, e_fne2, e_seq, e_sne, e_ta1, e_ta2, Nat.zero_add, Nat.add_zero, Bool.not_true, Bool.not_false]
  refine ld1_r R.row rfl ?_
  refine steps_ok R.arn ?_
  try simp only [e_fd, e_nck, e_pkt, e_pkf, e_gdtt, e_gdtf, e_gdft, e_gdff, e_ift, e_iff, e_not, e_ln, e_lnT, e_cp, e_cvi, e_ex20, e_ex21, e_ex30, e_ex31, e_ex32, e_add, e_sub, e_mul, e_quo, e_rem, e_and, e_or, e_xor, e_shl, e_shr, e_eql, e_neq, e_lss, e_leq, e_gtr, e_geq, e_beq, e_bne, e_peq1, e_peq2, e_pne1, e_pne2, e_zeq1, e_zeq2, e_zne1, e_zne2, e_feq1, e_fne1, e_feq2, e_fne2, e_seq, e_sne, e_ta1, e_ta2, Nat.zero_add, Nat.add_zero, Bool.not_true, Bool.not_false]
  refine ld1_r R.r3 rfl ?_
  have fin : ∀ k, k ≤ 4 → ∀ md, midF k (s00 s) c = md → ∀ w' m', Rc w m s.L w.heap.size w1.heap.size w2.heap.size c (outV md.code md.id md.at_ md.q 0 nilS) w' m' md.s → s14_p9 K (P m.wdb 0) (P w.heap.size 0) (P w1.heap.size 0) (P w2.heap.size 0) (U64 s.A.st) w' := by
    intro k hk md e w' m' R'
    have ew := R'.st.wdb
    rw [← ew]
    have lk := mid_L k (s00 s) c
    have lk0 : (s00 s).L.length = s.L.length := rfl
    refine real_tail R'.wd R'.st R'.r3 R'.r4 rfl R'.r5 R'.n45 R'.z4 R'.z5 R'.zs hA (by rw [← e]; omega) hc.k8 (fun h0 h2 => ?_) (fun w6 m6 nb sob sv wd6 st6 sl6 no6 => ?_)
    · rw [← e] at h0 ⊢
      obtain ⟨i, hi, j, e1, e2, e3⟩ := mid_alloc (s := s00 s) h.ok h2 h0
      rw [(mid_T k (s00 s) c h2).1, e3]
      have hok := (h.ok.sh _ (List.getElem_mem hi)).1
      have := bk_le _ hok e2
      have h9 := hok.lim
      refine ⟨i, hi, e1, ?_⟩
      show (s.T.ps[i]'hi).bk j + (s.T.ps[i]'hi).bw ≤ 4096
      exact Nat.le_trans this h9
    · subst e
      exact hK w6 m6 k nb sob sv hk wd6 st6 sl6 no6
  have kk := hc.k8
  have en : ∀ n : Nat, c.kind ≠ n → (((c.kind : Nat) : Int) == (n : Int)) = false := fun n hn => by rw [beq_eq_false_iff_ne]; omega
  have fin0 := fin 0 (by omega)
  unfold s14_p43 u8
  try simp only [e_fd, e_nck, e_pkt, e_pkf, e_gdtt, e_gdtf, e_gdft, e_gdff, e_ift, e_iff, e_not, e_ln, e_lnT, e_cp, e_cvi, e_ex20, e_ex21, e_ex30, e_ex31, e_ex32, e_add, e_sub, e_mul, e_quo, e_rem, e_and, e_or, e_xor, e_shl, e_shr, e_eql, e_neq, e_lss, e_leq, e_gtr, e_geq, e_beq, e_bne, e_peq1, e_peq2, e_pne1, e_pne2, e_zeq1, e_zeq2, e_zne1, e_zne2, e_feq1, e_fne1, e_feq2, e_fne2, e_seq, e_sne, e_ta1, e_ta2, Nat.zero_add, Nat.add_zero, Bool.not_true, Bool.not_false]
  unfold s14_p42
  by_cases k0 : c.kind = 0
  · have e : (((c.kind : Nat) : Int) == 0) = true := by rw [k0]; rfl
    simp only [e, e_fd, e_nck, e_pkt, e_pkf, e_gdtt, e_gdtf, e_gdft, e_gdff, e_ift, e_iff, e_not, e_ln, e_lnT, e_cp, e_cvi, e_ex20, e_ex21, e_ex30, e_ex31, e_ex32, e_add, e_sub, e_mul, e_quo, e_rem, e_and, e_or, e_xor, e_shl, e_shr, e_eql, e_neq, e_lss, e_leq, e_gtr, e_geq, e_beq, e_bne, e_peq1, e_peq2, e_pne1, e_pne2, e_zeq1, e_zeq2, e_zne1, e_zne2, e_feq1, e_fne1, e_feq2, e_fne2, e_seq, e_sne, e_ta1, e_ta2, Nat.zero_add, Nat.add_zero, Bool.not_true, Bool.not_false]
    unfold s14_p12
    exact real_open R (fin0 _ (by unfold midF; rw [if_pos k0]))
  simp only [show (((c.kind : Nat) : Int) == 0) = false from en 0 k0, e_fd, e_nck, e_pkt, e_pkf, e_gdtt, e_gdtf, e_gdft, e_gdff, e_ift, e_iff, e_not, e_ln, e_lnT, e_cp, e_cvi, e_ex20, e_ex21, e_ex30, e_ex31, e_ex32, e_add, e_sub, e_mul, e_quo, e_rem, e_and, e_or, e_xor, e_shl, e_shr, e_eql, e_neq, e_lss, e_leq, e_gtr, e_geq, e_beq, e_bne, e_peq1, e_peq2, e_pne1, e_pne2, e_zeq1, e_zeq2, e_zne1, e_zne2, e_feq1, e_fne1, e_feq2, e_fne2, e_seq, e_sne, e_ta1, e_ta2, Nat.zero_add, Nat.add_zero, Bool.not_true, Bool.not_false]
  unfold s14_p41
  try simp only [e_fd, e_nck, e_pkt, e_pkf, e_gdtt, e_gdtf, e_gdft, e_gdff, e_ift, e_iff, e_not, e_ln, e_lnT, e_cp, e_cvi, e_ex20, e_ex21, e_ex30, e_ex31, e_ex32, e_add, e_sub, e_mul, e_quo, e_rem, e_and, e_or, e_xor, e_shl, e_shr, e_eql, e_neq, e_lss, e_leq, e_gtr, e_geq, e_beq, e_bne, e_peq1, e_peq2, e_pne1, e_pne2, e_zeq1, e_zeq2, e_zne1, e_zne2, e_feq1, e_fne1, e_feq2, e_fne2, e_seq, e_sne, e_ta1, e_ta2, Nat.zero_add, Nat.add_zero, Bool.not_true, Bool.not_false]
  unfold s14_p40
  by_cases k1 : c.kind = 1
  · have e : (((c.kind : Nat) : Int) == 1) = true := by rw [k1]; rfl
    simp only [e, e_fd, e_nck, e_pkt, e_pkf, e_gdtt, e_gdtf, e_gdft, e_gdff, e_ift, e_iff, e_not, e_ln, e_lnT, e_cp, e_cvi, e_ex20, e_ex21, e_ex30, e_ex31, e_ex32, e_add, e_sub, e_mul, e_quo, e_rem, e_and, e_or, e_xor, e_shl, e_shr, e_eql, e_neq, e_lss, e_leq, e_gtr, e_geq, e_beq, e_bne, e_peq1, e_peq2, e_pne1, e_pne2, e_zeq1, e_zeq2, e_zne1, e_zne2, e_feq1, e_fne1, e_feq2, e_fne2, e_seq, e_sne, e_ta1, e_ta2, Nat.zero_add, Nat.add_zero, Bool.not_true, Bool.not_false]
    exact real_create R hsd (fin0 _ (by unfold midF; rw [if_neg k0, if_pos k1]))
  simp only [show (((c.kind : Nat) : Int) == 1) = false from en 1 k1, e_fd, e_nck, e_pkt, e_pkf, e_gdtt, e_gdtf, e_gdft, e_gdff, e_ift, e_iff, e_not, e_ln, e_lnT, e_cp, e_cvi, e_ex20, e_ex21, e_ex30, e_ex31, e_ex32, e_add, e_sub, e_mul, e_quo, e_rem, e_and, e_or, e_xor, e_shl, e_shr, e_eql, e_neq, e_lss, e_leq, e_gtr, e_geq, e_beq, e_bne, e_peq1, e_peq2, e_pne1, e_pne2, e_zeq1, e_zeq2, e_zne1, e_zne2, e_feq1, e_fne1, e_feq2, e_fne2, e_seq, e_sne, e_ta1, e_ta2, Nat.zero_add, Nat.add_zero, Bool.not_true, Bool.not_false]
  unfold s14_p39
  try simp only [e_fd, e_nck, e_pkt, e_pkf, e_gdtt, e_gdtf, e_gdft, e_gdff, e_ift, e_iff, e_not, e_ln, e_lnT, e_cp, e_cvi, e_ex20, e_ex21, e_ex30, e_ex31, e_ex32, e_add, e_sub, e_mul, e_quo, e_rem, e_and, e_or, e_xor, e_shl, e_shr, e_eql, e_neq, e_lss, e_leq, e_gtr, e_geq, e_beq, e_bne, e_peq1, e_peq2, e_pne1, e_pne2, e_zeq1, e_zeq2, e_zne1, e_zne2, e_feq1, e_fne1, e_feq2, e_fne2, e_seq, e_sne, e_ta1, e_ta2, Nat.zero_add, Nat.add_zero, Bool.not_true, Bool.not_false]
  unfold s14_p38
  by_cases k2 : c.kind = 2
  · have e : (((c.kind : Nat) : Int) == 2) = true := by rw [k2]; rfl
    simp only [e, e_fd, e_nck, e_pkt, e_pkf, e_gdtt, e_gdtf, e_gdft, e_gdff, e_ift, e_iff, e_not, e_ln, e_lnT, e_cp, e_cvi, e_ex20, e_ex21, e_ex30, e_ex31, e_ex32, e_add, e_sub, e_mul, e_quo, e_rem, e_and, e_or, e_xor, e_shl, e_shr, e_eql, e_neq, e_lss, e_leq, e_gtr, e_geq, e_beq, e_bne, e_peq1, e_peq2, e_pne1, e_pne2, e_zeq1, e_zeq2, e_zne1, e_zne2, e_feq1, e_fne1, e_feq2, e_fne2, e_seq, e_sne, e_ta1, e_ta2, Nat.zero_add, Nat.add_zero, Bool.not_true, Bool.not_false]
    exact real_alloc R hsd (fin0 _ (by unfold midF; rw [if_neg k0, if_neg k1, if_pos k2]))
  simp only [show (((c.kind : Nat) : Int) == 2) = false from en 2 k2, e_fd, e_nck, e_pkt, e_pkf, e_gdtt, e_gdtf, e_gdft, e_gdff, e_ift, e_iff, e_not, e_ln, e_lnT, e_cp, e_cvi, e_ex20, e_ex21, e_ex30, e_ex31, e_ex32, e_add, e_sub, e_mul, e_quo, e_rem, e_and, e_or, e_xor, e_shl, e_shr, e_eql, e_neq, e_lss, e_leq, e_gtr, e_geq, e_beq, e_bne, e_peq1, e_peq2, e_pne1, e_pne2, e_zeq1, e_zeq2, e_zne1, e_zne2, e_feq1, e_fne1, e_feq2, e_fne2, e_seq, e_sne, e_ta1, e_ta2, Nat.zero_add, Nat.add_zero, Bool.not_true, Bool.not_false]
  unfold s14_p37
  try simp only [e_fd, e_nck, e_pkt, e_pkf, e_gdtt, e_gdtf, e_gdft, e_gdff, e_ift, e_iff, e_not, e_ln, e_lnT, e_cp, e_cvi, e_ex20, e_ex21, e_ex30, e_ex31, e_ex32, e_add, e_sub, e_mul, e_quo, e_rem, e_and, e_or, e_xor, e_shl, e_shr, e_eql, e_neq, e_lss, e_leq, e_gtr, e_geq, e_beq, e_bne, e_peq1, e_peq2, e_pne1, e_pne2, e_zeq1, e_zeq2, e_zne1, e_zne2, e_feq1, e_fne1, e_feq2, e_fne2, e_seq, e_sne, e_ta1, e_ta2, Nat.zero_add, Nat.add_zero, Bool.not_true, Bool.not_false]
  unfold s14_p36
  by_cases k3 : c.kind = 3
  · have e : (((c.kind : Nat) : Int) == 3) = true := by rw [k3]; rfl
    simp only [e, e_fd, e_nck, e_pkt, e_pkf, e_gdtt, e_gdtf, e_gdft, e_gdff, e_ift, e_iff, e_not, e_ln, e_lnT, e_cp, e_cvi, e_ex20, e_ex21, e_ex30, e_ex31, e_ex32, e_add, e_sub, e_mul, e_quo, e_rem, e_and, e_or, e_xor, e_shl, e_shr, e_eql, e_neq, e_lss, e_leq, e_gtr, e_geq, e_beq, e_bne, e_peq1, e_peq2, e_pne1, e_pne2, e_zeq1, e_zeq2, e_zne1, e_zne2, e_feq1, e_fne1, e_feq2, e_fne2, e_seq, e_sne, e_ta1, e_ta2, Nat.zero_add, Nat.add_zero, Bool.not_true, Bool.not_false]
    exact real_free R hsd hc.at_ (fin0 _ (by unfold midF; rw [if_neg k0, if_neg k1, if_neg k2, if_pos k3]))
  simp only [show (((c.kind : Nat) : Int) == 3) = false from en 3 k3, e_fd, e_nck, e_pkt, e_pkf, e_gdtt, e_gdtf, e_gdft, e_gdff, e_ift, e_iff, e_not, e_ln, e_lnT, e_cp, e_cvi, e_ex20, e_ex21, e_ex30, e_ex31, e_ex32, e_add, e_sub, e_mul, e_quo, e_rem, e_and, e_or, e_xor, e_shl, e_shr, e_eql, e_neq, e_lss, e_leq, e_gtr, e_geq, e_beq, e_bne, e_peq1, e_peq2, e_pne1, e_pne2, e_zeq1, e_zeq2, e_zne1, e_zne2, e_feq1, e_fne1, e_feq2, e_fne2, e_seq, e_sne, e_ta1, e_ta2, Nat.zero_add, Nat.add_zero, Bool.not_true, Bool.not_false]
  unfold s14_p35
  try simp only [e_fd, e_nck, e_pkt, e_pkf, e_gdtt, e_gdtf, e_gdft, e_gdff, e_ift, e_iff, e_not, e_ln, e_lnT, e_cp, e_cvi, e_ex20, e_ex21, e_ex30, e_ex31, e_ex32, e_add, e_sub, e_mul, e_quo, e_rem, e_and, e_or, e_xor, e_shl, e_shr, e_eql, e_neq, e_lss, e_leq, e_gtr, e_geq, e_beq, e_bne, e_peq1, e_peq2, e_pne1, e_pne2, e_zeq1, e_zeq2, e_zne1, e_zne2, e_feq1, e_fne1, e_feq2, e_fne2, e_seq, e_sne, e_ta1, e_ta2, Nat.zero_add, Nat.add_zero, Bool.not_true, Bool.not_false]
  unfold s14_p34
  by_cases k4 : c.kind = 4
  · have e : (((c.kind : Nat) : Int) == 4) = true := by rw [k4]; rfl
    simp only [e, e_fd, e_nck, e_pkt, e_pkf, e_gdtt, e_gdtf, e_gdft, e_gdff, e_ift, e_iff, e_not, e_ln, e_lnT, e_cp, e_cvi, e_ex20, e_ex21, e_ex30, e_ex31, e_ex32, e_add, e_sub, e_mul, e_quo, e_rem, e_and, e_or, e_xor, e_shl, e_shr, e_eql, e_neq, e_lss, e_leq, e_gtr, e_geq, e_beq, e_bne, e_peq1, e_peq2, e_pne1, e_pne2, e_zeq1, e_zeq2, e_zne1, e_zne2, e_feq1, e_fne1, e_feq2, e_fne2, e_seq, e_sne, e_ta1, e_ta2, Nat.zero_add, Nat.add_zero, Bool.not_true, Bool.not_false]
    exact real_rel R hsd hc.at_ (fun k hk => fin k hk _ (by unfold midF; rw [if_neg k0, if_neg k1, if_neg k2, if_neg k3, if_pos k4]))
  simp only [show (((c.kind : Nat) : Int) == 4) = false from en 4 k4, e_fd, e_nck, e_pkt, e_pkf, e_gdtt, e_gdtf, e_gdft, e_gdff, e_ift, e_iff, e_not, e_ln, e_lnT, e_cp, e_cvi, e_ex20, e_ex21, e_ex30, e_ex31, e_ex32, e_add, e_sub, e_mul, e_quo, e_rem, e_and, e_or, e_xor, e_shl, e_shr, e_eql, e_neq, e_lss, e_leq, e_gtr, e_geq, e_beq, e_bne, e_peq1, e_peq2, e_pne1, e_pne2, e_zeq1, e_zeq2, e_zne1, e_zne2, e_feq1, e_fne1, e_feq2, e_fne2, e_seq, e_sne, e_ta1, e_ta2, Nat.zero_add, Nat.add_zero, Bool.not_true, Bool.not_false]
  unfold s14_p33
  try simp only [e_fd, e_nck, e_pkt, e_pkf, e_gdtt, e_gdtf, e_gdft, e_gdff, e_ift, e_iff, e_not, e_ln, e_lnT, e_cp, e_cvi, e_ex20, e_ex21, e_ex30, e_ex31, e_ex32, e_add, e_sub, e_mul, e_quo, e_rem, e_and, e_or, e_xor, e_shl, e_shr, e_eql, e_neq, e_lss, e_leq, e_gtr, e_geq, e_beq, e_bne, e_peq1, e_peq2, e_pne1, e_pne2, e_zeq1, e_zeq2, e_zne1, e_zne2, e_feq1, e_fne1, e_feq2, e_fne2, e_seq, e_sne, e_ta1, e_ta2, Nat.zero_add, Nat.add_zero, Bool.not_true, Bool.not_false]
  unfold s14_p32
  by_cases k5 : c.kind = 5
  · have e : (((c.kind : Nat) : Int) == 5) = true := by rw [k5]; rfl
    simp only [e, e_fd, e_nck, e_pkt, e_pkf, e_gdtt, e_gdtf, e_gdft, e_gdff, e_ift, e_iff, e_not, e_ln, e_lnT, e_cp, e_cvi, e_ex20, e_ex21, e_ex30, e_ex31, e_ex32, e_add, e_sub, e_mul, e_quo, e_rem, e_and, e_or, e_xor, e_shl, e_shr, e_eql, e_neq, e_lss, e_leq, e_gtr, e_geq, e_beq, e_bne, e_peq1, e_peq2, e_pne1, e_pne2, e_zeq1, e_zeq2, e_zne1, e_zne2, e_feq1, e_fne1, e_feq2, e_fne2, e_seq, e_sne, e_ta1, e_ta2, Nat.zero_add, Nat.add_zero, Bool.not_true, Bool.not_false]
    exact real_own R hc.at_ (fun k hk => fin k hk _ (by unfold midF; rw [if_neg k0, if_neg k1, if_neg k2, if_neg k3, if_neg k4, if_pos k5]))
  simp only [show (((c.kind : Nat) : Int) == 5) = false from en 5 k5, e_fd, e_nck, e_pkt, e_pkf, e_gdtt, e_gdtf, e_gdft, e_gdff, e_ift, e_iff, e_not, e_ln, e_lnT, e_cp, e_cvi, e_ex20, e_ex21, e_ex30, e_ex31, e_ex32, e_add, e_sub, e_mul, e_quo, e_rem, e_and, e_or, e_xor, e_shl, e_shr, e_eql, e_neq, e_lss, e_leq, e_gtr, e_geq, e_beq, e_bne, e_peq1, e_peq2, e_pne1, e_pne2, e_zeq1, e_zeq2, e_zne1, e_zne2, e_feq1, e_fne1, e_feq2, e_fne2, e_seq, e_sne, e_ta1, e_ta2, Nat.zero_add, Nat.add_zero, Bool.not_true, Bool.not_false]
  unfold s14_p31
  try simp only [e_fd, e_nck, e_pkt, e_pkf, e_gdtt, e_gdtf, e_gdft, e_gdff, e_ift, e_iff, e_not, e_ln, e_lnT, e_cp, e_cvi, e_ex20, e_ex21, e_ex30, e_ex31, e_ex32, e_add, e_sub, e_mul, e_quo, e_rem, e_and, e_or, e_xor, e_shl, e_shr, e_eql, e_neq, e_lss, e_leq, e_gtr, e_geq, e_beq, e_bne, e_peq1, e_peq2, e_pne1, e_pne2, e_zeq1, e_zeq2, e_zne1, e_zne2, e_feq1, e_fne1, e_feq2, e_fne2, e_seq, e_sne, e_ta1, e_ta2, Nat.zero_add, Nat.add_zero, Bool.not_true, Bool.not_false]
  unfold s14_p30
  by_cases k6 : c.kind = 6
  · have e : (((c.kind : Nat) : Int) == 6) = true := by rw [k6]; rfl
    simp only [e, e_fd, e_nck, e_pkt, e_pkf, e_gdtt, e_gdtf, e_gdft, e_gdff, e_ift, e_iff, e_not, e_ln, e_lnT, e_cp, e_cvi, e_ex20, e_ex21, e_ex30, e_ex31, e_ex32, e_add, e_sub, e_mul, e_quo, e_rem, e_and, e_or, e_xor, e_shl, e_shr, e_eql, e_neq, e_lss, e_leq, e_gtr, e_geq, e_beq, e_bne, e_peq1, e_peq2, e_pne1, e_pne2, e_zeq1, e_zeq2, e_zne1, e_zne2, e_feq1, e_fne1, e_feq2, e_fne2, e_seq, e_sne, e_ta1, e_ta2, Nat.zero_add, Nat.add_zero, Bool.not_true, Bool.not_false]
    exact real_stats R (fin0 _ (by unfold midF; rw [if_neg k0, if_neg k1, if_neg k2, if_neg k3, if_neg k4, if_neg k5, if_pos k6]))
  simp only [show (((c.kind : Nat) : Int) == 6) = false from en 6 k6, e_fd, e_nck, e_pkt, e_pkf, e_gdtt, e_gdtf, e_gdft, e_gdff, e_ift, e_iff, e_not, e_ln, e_lnT, e_cp, e_cvi, e_ex20, e_ex21, e_ex30, e_ex31, e_ex32, e_add, e_sub, e_mul, e_quo, e_rem, e_and, e_or, e_xor, e_shl, e_shr, e_eql, e_neq, e_lss, e_leq, e_gtr, e_geq, e_beq, e_bne, e_peq1, e_peq2, e_pne1, e_pne2, e_zeq1, e_zeq2, e_zne1, e_zne2, e_feq1, e_fne1, e_feq2, e_fne2, e_seq, e_sne, e_ta1, e_ta2, Nat.zero_add, Nat.add_zero, Bool.not_true, Bool.not_false]
  unfold s14_p29
  try simp only [e_fd, e_nck, e_pkt, e_pkf, e_gdtt, e_gdtf, e_gdft, e_gdff, e_ift, e_iff, e_not, e_ln, e_lnT, e_cp, e_cvi, e_ex20, e_ex21, e_ex30, e_ex31, e_ex32, e_add, e_sub, e_mul, e_quo, e_rem, e_and, e_or, e_xor, e_shl, e_shr, e_eql, e_neq, e_lss, e_leq, e_gtr, e_geq, e_beq, e_bne, e_peq1, e_peq2, e_pne1, e_pne2, e_zeq1, e_zeq2, e_zne1, e_zne2, e_feq1, e_fne1, e_feq2, e_fne2, e_seq, e_sne, e_ta1, e_ta2, Nat.zero_add, Nat.add_zero, Bool.not_true, Bool.not_false]
  unfold s14_p28
  by_cases k7 : c.kind = 7
  · have e : (((c.kind : Nat) : Int) == 7) = true := by rw [k7]; rfl
    simp only [e, e_fd, e_nck, e_pkt, e_pkf, e_gdtt, e_gdtf, e_gdft, e_gdff, e_ift, e_iff, e_not, e_ln, e_lnT, e_cp, e_cvi, e_ex20, e_ex21, e_ex30, e_ex31, e_ex32, e_add, e_sub, e_mul, e_quo, e_rem, e_and, e_or, e_xor, e_shl, e_shr, e_eql, e_neq, e_lss, e_leq, e_gtr, e_geq, e_beq, e_bne, e_peq1, e_peq2, e_pne1, e_pne2, e_zeq1, e_zeq2, e_zne1, e_zne2, e_feq1, e_fne1, e_feq2, e_fne2, e_seq, e_sne, e_ta1, e_ta2, Nat.zero_add, Nat.add_zero, Bool.not_true, Bool.not_false]
    exact real_poke R hsd hc' k7 (fin0 _ (by unfold midF; rw [if_neg k0, if_neg k1, if_neg k2, if_neg k3, if_neg k4, if_neg k5, if_neg k6, if_pos k7]))
  simp only [show (((c.kind : Nat) : Int) == 7) = false from en 7 k7, e_fd, e_nck, e_pkt, e_pkf, e_gdtt, e_gdtf, e_gdft, e_gdff, e_ift, e_iff, e_not, e_ln, e_lnT, e_cp, e_cvi, e_ex20, e_ex21, e_ex30, e_ex31, e_ex32, e_add, e_sub, e_mul, e_quo, e_rem, e_and, e_or, e_xor, e_shl, e_shr, e_eql, e_neq, e_lss, e_leq, e_gtr, e_geq, e_beq, e_bne, e_peq1, e_peq2, e_pne1, e_pne2, e_zeq1, e_zeq2, e_zne1, e_zne2, e_feq1, e_fne1, e_feq2, e_fne2, e_seq, e_sne, e_ta1, e_ta2, Nat.zero_add, Nat.add_zero, Bool.not_true, Bool.not_false]
  unfold s14_p27
  try simp only [e_fd, e_nck, e_pkt, e_pkf, e_gdtt, e_gdtf, e_gdft, e_gdff, e_ift, e_iff, e_not, e_ln, e_lnT, e_cp, e_cvi, e_ex20, e_ex21, e_ex30, e_ex31, e_ex32, e_add, e_sub, e_mul, e_quo, e_rem, e_and, e_or, e_xor, e_shl, e_shr, e_eql, e_neq, e_lss, e_leq, e_gtr, e_geq, e_beq, e_bne, e_peq1, e_peq2, e_pne1, e_pne2, e_zeq1, e_zeq2, e_zne1, e_zne2, e_feq1, e_fne1, e_feq2, e_fne2, e_seq, e_sne, e_ta1, e_ta2, Nat.zero_add, Nat.add_zero, Bool.not_true, Bool.not_false]
  unfold s14_p26
  by_cases k8 : c.kind = 8
  · have e : (((c.kind : Nat) : Int) == 8) = true := by rw [k8]; rfl
    simp only [e, e_fd, e_nck, e_pkt, e_pkf, e_gdtt, e_gdtf, e_gdft, e_gdff, e_ift, e_iff, e_not, e_ln, e_lnT, e_cp, e_cvi, e_ex20, e_ex21, e_ex30, e_ex31, e_ex32, e_add, e_sub, e_mul, e_quo, e_rem, e_and, e_or, e_xor, e_shl, e_shr, e_eql, e_neq, e_lss, e_leq, e_gtr, e_geq, e_beq, e_bne, e_peq1, e_peq2, e_pne1, e_pne2, e_zeq1, e_zeq2, e_zne1, e_zne2, e_feq1, e_fne1, e_feq2, e_fne2, e_seq, e_sne, e_ta1, e_ta2, Nat.zero_add, Nat.add_zero, Bool.not_true, Bool.not_false]
    exact real_scr R hsd hc.at_ (fin0 _ (by unfold midF; rw [if_neg k0, if_neg k1, if_neg k2, if_neg k3, if_neg k4, if_neg k5, if_neg k6, if_neg k7, if_pos k8]))
  simp only [show (((c.kind : Nat) : Int) == 8) = false from en 8 k8, e_fd, e_nck, e_pkt, e_pkf, e_gdtt, e_gdtf, e_gdft, e_gdff, e_ift, e_iff, e_not, e_ln, e_lnT, e_cp, e_cvi, e_ex20, e_ex21, e_ex30, e_ex31, e_ex32, e_add, e_sub, e_mul, e_quo, e_rem, e_and, e_or, e_xor, e_shl, e_shr, e_eql, e_neq, e_lss, e_leq, e_gtr, e_geq, e_beq, e_bne, e_peq1, e_peq2, e_pne1, e_pne2, e_zeq1, e_zeq2, e_zne1, e_zne2, e_feq1, e_fne1, e_feq2, e_fne2, e_seq, e_sne, e_ta1, e_ta2, Nat.zero_add, Nat.add_zero, Bool.not_true, Bool.not_false]
  unfold s14_p25
  try simp only [e_fd, e_nck, e_pkt, e_pkf, e_gdtt, e_gdtf, e_gdft, e_gdff, e_ift, e_iff, e_not, e_ln, e_lnT, e_cp, e_cvi, e_ex20, e_ex21, e_ex30, e_ex31, e_ex32, e_add, e_sub, e_mul, e_quo, e_rem, e_and, e_or, e_xor, e_shl, e_shr, e_eql, e_neq, e_lss, e_leq, e_gtr, e_geq, e_beq, e_bne, e_peq1, e_peq2, e_pne1, e_pne2, e_zeq1, e_zeq2, e_zne1, e_zne2, e_feq1, e_fne1, e_feq2, e_fne2, e_seq, e_sne, e_ta1, e_ta2, Nat.zero_add, Nat.add_zero, Bool.not_true, Bool.not_false]
  refine R.code rfl fun w7 R7 => ?_
  exact fin0 ⟨12, -1, 0, q0, s00 s⟩ (by unfold midF; rw [if_neg k0, if_neg k1, if_neg k2, if_neg k3, if_neg k4, if_neg k5, if_neg k6, if_neg k7, if_neg k8]) w7 _ R7
end
end Go.Proofs.Qxb6500893aDoor
