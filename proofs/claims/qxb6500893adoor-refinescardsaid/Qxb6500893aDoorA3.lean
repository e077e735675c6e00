import Derived.Test.Qxb6500893aDoorA2
namespace Go.Proofs.Qxb6500893aDoor
open Go.Sh Go.RowKit
set_option linter.unusedVariables false
set_option linter.unusedSimpArgs false

/-! ### bits -/
theorem ofI64 {a : Nat} (ha : a < 18446744073709551616) : (BitVec.ofInt IntKind.u64.bits (a : Int)).toNat = a := by
  have e : IntKind.u64.bits = 64 := rfl
  rw [BitVec.toNat_ofInt, e]
  omega
theorem and64 {a b : Nat} (ha : a < 18446744073709551616) (hb : b < 18446744073709551616) : IntKind.u64.wrap (((BitVec.ofInt IntKind.u64.bits (a : Int) &&& BitVec.ofInt IntKind.u64.bits (b : Int)).toNat : Nat) : Int) = ((a &&& b : Nat) : Int) := by
  rw [BitVec.toNat_and, ofI64 ha, ofI64 hb]
  exact w64 (Nat.lt_of_le_of_lt Nat.and_le_left ha)
theorem or64 {a b : Nat} (ha : a < 18446744073709551616) (hb : b < 18446744073709551616) : IntKind.u64.wrap (((BitVec.ofInt IntKind.u64.bits (a : Int) ||| BitVec.ofInt IntKind.u64.bits (b : Int)).toNat : Nat) : Int) = ((a ||| b : Nat) : Int) := by
  rw [BitVec.toNat_or, ofI64 ha, ofI64 hb]
  exact w64 (Nat.or_lt_two_pow (n := 64) ha hb)
theorem or64_lt {a b : Nat} (ha : a < 18446744073709551616) (hb : b < 18446744073709551616) : a ||| b < 18446744073709551616 := Nat.or_lt_two_pow (n := 64) ha hb

/-! ### tables -/
structure Tb where
  base : Nat
  wd : Nat
  next : Nat
  lim : Nat
  ps : List Shp
structure Tb.Ok (T : Tb) : Prop where
  lim : T.base + T.wd = T.lim
  top : T.lim ≤ 4096
  wd : 1 ≤ T.wd
  n0 : T.base ≤ T.next
  n1 : T.next ≤ T.lim
  sh : ∀ s ∈ T.ps, s.Ok ∧ T.base ≤ s.ctl ∧ s.fin ≤ T.next
  len : T.ps.length ≤ 8
  srt : T.ps.Pairwise (fun a b => a.fin ≤ b.ctl)
structure Tbl (w : World) (tb pb ab : Nat) (T : Tb) : Prop where
  row : Row w tb 106 [P ab 0, U32 T.base, U32 T.wd, U32 T.next, U32 T.lim, .slice (some ⟨pb, 0, none⟩) T.ps.length 8]
  pools : ∃ junk : List Value, junk.length = (8 - T.ps.length) * 6 ∧ Row w pb 112 (rows shV T.ps ++ junk)

section
variable {w w' : World} {ab tb pb p sb so : Nat} {M M' : Am} {A : Ar} {K : Value → World → Prop} {C : Nat → Prop} {s : Shp} {T : Tb}
theorem Tbl.kp (h : Tbl w tb pb ab T) (hk : Kp C w w') (h1 : ¬ C tb) (h2 : ¬ C pb) : Tbl w' tb pb ab T := by
  obtain ⟨junk, e1, e2⟩ := h.pools
  exact ⟨hk.row h.row h1, junk, e1, hk.row e2 h2⟩
theorem Tbl.kp' (h : Tbl w tb pb ab T) (hk : Kp (fun _ => False) w w') : Tbl w' tb pb ab T := h.kp hk (fun q => q) (fun q => q)
theorem Tbl.stA (h : Tbl w tb pb ab T) (ha : Arn w ab M A) (st : StA w w' ab M M') : Tbl w' tb pb ab T := by
  obtain ⟨junk, e1, e2⟩ := h.pools
  exact h.kp st.kp (ha.ntag h.row (by decide) (by decide) (by decide)) (ha.ntag e2 (by decide) (by decide) (by decide))
theorem Tbl.stP (h : Tbl w tb pb ab T) (hp : Pt w ab p M A) (st : StP w w' ab p M M') : Tbl w' tb pb ab T := by
  obtain ⟨junk, e1, e2⟩ := h.pools
  exact ⟨hp.keep st h.row (by decide) (by decide) (by decide) (by decide), junk, e1, hp.keep st e2 (by decide) (by decide) (by decide) (by decide)⟩
theorem Tbl.at' (h : Tbl w tb pb ab T) {i : Nat} (hi : i < T.ps.length) : ShAt w pb (i * 6) T.ps[i] := by
  obtain ⟨junk, e1, e2⟩ := h.pools
  refine ⟨_, e2, fun j hj => ?_⟩
  have := rows_le shV_len T.ps i hi
  rw [List.getElem?_append_left (by omega), rows_get shV_len T.ps i hi j hj]

theorem shapeOf_ok {id : Int} (h : Tbl w tb pb ab T) (hN : ¬ (0 ≤ id ∧ id < T.ps.length) → K (.tuple #[.pointer none, I 6]) w)
    (hS : ∀ i (hi : i < T.ps.length), id = (i : Int) → ShAt w pb (i * 6) T.ps[i] → K (.tuple #[P pb (i * 6), I 0]) w) : cl Tryd.prog 46 #[P tb 0, I id] K w := by
  apply c46
  unfold s46_p1
  try simp only [e_fd, e_nck, e_pkt, e_pkf, e_gdtt, e_gdtf, e_gdft, e_gdff, e_ift, e_iff, e_not, e_ln, e_lnT, e_cp, e_cvi, e_ex20, e_ex21, e_ex30, e_ex31, e_ex32, e_add, e_sub, e_mul, e_quo, e_rem, e_and, e_or, e_xor, e_shl, e_shr, e_eql, e_neq, e_lss, e_leq, e_gtr, e_geq, e_beq, e_bne, e_peq1, e_peq2, e_pne1, e_pne2, e_zeq1, e_zeq2, e_zne1, e_zne2, e_feq1, e_fne1, e_feq2, e_fne2, e_seq, e_sne, e_ta1, e_ta2, Nat.zero_add, Nat.add_zero, Bool.not_true, Bool.not_false]
  by_cases h0 : id < 0
  · simp only [h0, decide_true, e_fd, e_nck, e_pkt, e_pkf, e_gdtt, e_gdtf, e_gdft, e_gdff, e_ift, e_iff, e_not, e_ln, e_lnT, e_cp, e_cvi, e_ex20, e_ex21, e_ex30, e_ex31, e_ex32, e_add, e_sub, e_mul, e_quo, e_rem, e_and, e_or, e_xor, e_shl, e_shr, e_eql, e_neq, e_lss, e_leq, e_gtr, e_geq, e_beq, e_bne, e_peq1, e_peq2, e_pne1, e_pne2, e_zeq1, e_zeq2, e_zne1, e_zne2, e_feq1, e_fne1, e_feq2, e_fne2, e_seq, e_sne, e_ta1, e_ta2, Nat.zero_add, Nat.add_zero, Bool.not_true, Bool.not_false]
    exact hN (by omega)
  · simp only [h0, decide_false, e_fd, e_nck, e_pkt, e_pkf, e_gdtt, e_gdtf, e_gdft, e_gdff, e_ift, e_iff, e_not, e_ln, e_lnT, e_cp, e_cvi, e_ex20, e_ex21, e_ex30, e_ex31, e_ex32, e_add, e_sub, e_mul, e_quo, e_rem, e_and, e_or, e_xor, e_shl, e_shr, e_eql, e_neq, e_lss, e_leq, e_gtr, e_geq, e_beq, e_bne, e_peq1, e_peq2, e_pne1, e_pne2, e_zeq1, e_zeq2, e_zne1, e_zne2, e_feq1, e_fne1, e_feq2, e_fne2, e_seq, e_sne, e_ta1, e_ta2, Nat.zero_add, Nat.add_zero, Bool.not_true, Bool.not_false]
    refine ld1_r h.row rfl ?_
    try simp only [e_fd, e_nck, e_pkt, e_pkf, e_gdtt, e_gdtf, e_gdft, e_gdff, e_ift, e_iff, e_not, e_ln, e_lnT, e_cp, e_cvi, e_ex20, e_ex21, e_ex30, e_ex31, e_ex32, e_add, e_sub, e_mul, e_quo, e_rem, e_and, e_or, e_xor, e_shl, e_shr, e_eql, e_neq, e_lss, e_leq, e_gtr, e_geq, e_beq, e_bne, e_peq1, e_peq2, e_pne1, e_pne2, e_zeq1, e_zeq2, e_zne1, e_zne2, e_feq1, e_fne1, e_feq2, e_fne2, e_seq, e_sne, e_ta1, e_ta2, Nat.zero_add, Nat.add_zero, Bool.not_true, Bool.not_false]
    by_cases h1 : ((T.ps.length : Nat) : Int) ≤ id
    · simp only [h1, decide_true, e_fd, e_nck, e_pkt, e_pkf, e_gdtt, e_gdtf, e_gdft, e_gdff, e_ift, e_iff, e_not, e_ln, e_lnT, e_cp, e_cvi, e_ex20, e_ex21, e_ex30, e_ex31, e_ex32, e_add, e_sub, e_mul, e_quo, e_rem, e_and, e_or, e_xor, e_shl, e_shr, e_eql, e_neq, e_lss, e_leq, e_gtr, e_geq, e_beq, e_bne, e_peq1, e_peq2, e_pne1, e_pne2, e_zeq1, e_zeq2, e_zne1, e_zne2, e_feq1, e_fne1, e_feq2, e_fne2, e_seq, e_sne, e_ta1, e_ta2, Nat.zero_add, Nat.add_zero, Bool.not_true, Bool.not_false]
      exact hN (by omega)
    · simp only [h1, decide_false, e_fd, e_nck, e_pkt, e_pkf, e_gdtt, e_gdtf, e_gdft, e_gdff, e_ift, e_iff, e_not, e_ln, e_lnT, e_cp, e_cvi, e_ex20, e_ex21, e_ex30, e_ex31, e_ex32, e_add, e_sub, e_mul, e_quo, e_rem, e_and, e_or, e_xor, e_shl, e_shr, e_eql, e_neq, e_lss, e_leq, e_gtr, e_geq, e_beq, e_bne, e_peq1, e_peq2, e_pne1, e_pne2, e_zeq1, e_zeq2, e_zne1, e_zne2, e_feq1, e_fne1, e_feq2, e_fne2, e_seq, e_sne, e_ta1, e_ta2, Nat.zero_add, Nat.add_zero, Bool.not_true, Bool.not_false]
      refine ld1_r h.row rfl ?_
      obtain ⟨i, rfl⟩ : ∃ i : Nat, id = (i : Int) := ⟨id.toNat, by omega⟩
      refine ⟨⟨by omega, by omega⟩, ?_⟩
      rw [show ((i : Int)).toNat = i by omega, add_mk, Nat.zero_add]
      exact hS i (by omega) rfl (h.at' (by omega))

def ld (A : Ar) : Ar := { A with st := tick A.st 1 }
def allocF (A : Ar) (s : Shp) : Nat × Int × Ar :=
  if A.ws s.ctl ≠ sealN s then (0, 11, ld (ld A))
  else if A.ws (s.ctl + 1) = 0 then (0, 7, if A.ws (s.ctl + 4) ≠ 18446744073709551615 then put (ld (ld (ld (ld A)))) (s.ctl + 4) (A.ws (s.ctl + 4) + 1) else ld (ld (ld (ld A))))
  else if s.n < A.ws (s.ctl + 1) then (0, 11, ld (ld (ld A)))
  else if A.ws (s.mc (A.ws (s.ctl + 1) - 1)) &&& bitN (A.ws (s.ctl + 1) - 1) ≠ 0 ∨ s.n < A.ws (s.bk (A.ws (s.ctl + 1) - 1)) ∨ s.n ≤ A.ws (s.ctl + 2) ∨ A.ws (s.ctl + 3) < A.ws (s.ctl + 2) ∨ s.n < A.ws (s.ctl + 3) then (0, 11, ld (ld (ld (ld (ld (ld (ld A)))))))
  else (s.bk (A.ws (s.ctl + 1) - 1), 0,
    if A.ws (s.ctl + 3) < A.ws (s.ctl + 2) + 1 then put (put (put (put (ld (ld (ld (ld (ld (ld (ld A))))))) (s.ctl + 1) (A.ws (s.bk (A.ws (s.ctl + 1) - 1)))) (s.mc (A.ws (s.ctl + 1) - 1)) (A.ws (s.mc (A.ws (s.ctl + 1) - 1)) ||| bitN (A.ws (s.ctl + 1) - 1))) (s.ctl + 2) (A.ws (s.ctl + 2) + 1)) (s.ctl + 3) (A.ws (s.ctl + 2) + 1)
    else put (put (put (ld (ld (ld (ld (ld (ld (ld A))))))) (s.ctl + 1) (A.ws (s.bk (A.ws (s.ctl + 1) - 1)))) (s.mc (A.ws (s.ctl + 1) - 1)) (A.ws (s.mc (A.ws (s.ctl + 1) - 1)) ||| bitN (A.ws (s.ctl + 1) - 1))) (s.ctl + 2) (A.ws (s.ctl + 2) + 1))

theorem Shp.Ok.bk_lt (h : s.Ok) {i : Nat} (hi : i < s.n) : s.fst ≤ s.bk i ∧ s.bk i + s.bw ≤ s.fin := by
  have := h.fin
  unfold Shp.bk
  have h1 : (i + 1) * s.bw ≤ s.n * s.bw := Nat.mul_le_mul_right _ hi
  rw [Nat.succ_mul] at h1
  omega
theorem Shp.Ok.mc_lt (h : s.Ok) {i : Nat} (hi : i < s.n) : s.bm ≤ s.mc i ∧ s.mc i < s.fst := by
  have := h.fst
  unfold mapW at this
  unfold Shp.mc
  omega
theorem Shp.Ok.ctl_lt (h : s.Ok) : s.ctl + 5 < s.fin := by
  have h1 := h.bm
  have h2 := h.fst
  have h3 := h.fin
  have h4 : 1 * 1 ≤ s.n * s.bw := Nat.mul_le_mul h.n1 h.bw1
  unfold mapW at h2
  have := h.n1
  omega

/-- a control word's address -/
theorem ctlA {z : Int} {k : Nat} (hz : z = (k : Int)) (h : s.Ok) (hk : k < 5) : IntKind.u32.wrap ((s.ctl : Int) + z) = ((s.ctl + k : Nat) : Int) := by
  have := h.ctl_lt
  have := h.lim
  rw [hz, show ((s.ctl : Int) + (k : Int)) = ((s.ctl + k : Nat) : Int) by omega, w32 (by omega)]

theorem newPort {R : Value → World → Prop} (ha : Arn w ab M A) (hK : ∀ w', Pt w' ab w.heap.size M A → Kp (fun _ => False) w w' → R (P w.heap.size 0) w') :
    bdq [.pointer none, I 0] [(some (0, 1), P ab 0)] (fun t38 w => nw 121 #[.pointer none, I 0] (fun t8 w => stn 2 t8 t38 (fun w => R t8 w) w) w) w := by
  refine bdq_r rfl ?_
  refine nw_r fun w1 r1 hk1 hz1 => ?_
  refine stn_r r1 rfl (show 0 + 2 ≤ 2 by decide) rfl fun w2 r2 hk2 hz2 => ?_
  have hk02 : Kp (fun _ => False) w w2 := hk1.then hk2 (fun k hk (q : k = _) => by omega)
  exact hK w2 ⟨ha.kp' hk02, r2⟩ hk02

theorem alloc_end {v : Value} (h : Pt w ab p M A) (hK : K (.tuple #[v, I 0]) w) : s33_p5 K (P p 0) v w := by
  unfold s33_p5
  try simp only [e_fd, e_nck, e_pkt, e_pkf, e_gdtt, e_gdtf, e_gdft, e_gdff, e_ift, e_iff, e_not, e_ln, e_lnT, e_cp, e_cvi, e_ex20, e_ex21, e_ex30, e_ex31, e_ex32, e_add, e_sub, e_mul, e_quo, e_rem, e_and, e_or, e_xor, e_shl, e_shr, e_eql, e_neq, e_lss, e_leq, e_gtr, e_geq, e_beq, e_bne, e_peq1, e_peq2, e_pne1, e_pne2, e_zeq1, e_zeq2, e_zne1, e_zne2, e_feq1, e_fne1, e_feq2, e_fne2, e_seq, e_sne, e_ta1, e_ta2, Nat.zero_add, Nat.add_zero, Bool.not_true, Bool.not_false]
  refine ld1_r h.port rfl ?_
  simp only [bne_self_eq_false, e_fd, e_nck, e_pkt, e_pkf, e_gdtt, e_gdtf, e_gdft, e_gdff, e_ift, e_iff, e_not, e_ln, e_lnT, e_cp, e_cvi, e_ex20, e_ex21, e_ex30, e_ex31, e_ex32, e_add, e_sub, e_mul, e_quo, e_rem, e_and, e_or, e_xor, e_shl, e_shr, e_eql, e_neq, e_lss, e_leq, e_gtr, e_geq, e_beq, e_bne, e_peq1, e_peq2, e_pne1, e_pne2, e_zeq1, e_zeq2, e_zne1, e_zne2, e_feq1, e_fne1, e_feq2, e_fne2, e_seq, e_sne, e_ta1, e_ta2, Nat.zero_add, Nat.add_zero, Bool.not_true, Bool.not_false]
  unfold s33_p4
  try simp only [e_fd, e_nck, e_pkt, e_pkf, e_gdtt, e_gdtf, e_gdft, e_gdff, e_ift, e_iff, e_not, e_ln, e_lnT, e_cp, e_cvi, e_ex20, e_ex21, e_ex30, e_ex31, e_ex32, e_add, e_sub, e_mul, e_quo, e_rem, e_and, e_or, e_xor, e_shl, e_shr, e_eql, e_neq, e_lss, e_leq, e_gtr, e_geq, e_beq, e_bne, e_peq1, e_peq2, e_pne1, e_pne2, e_zeq1, e_zeq2, e_zne1, e_zne2, e_feq1, e_fne1, e_feq2, e_fne2, e_seq, e_sne, e_ta1, e_ta2, Nat.zero_add, Nat.add_zero, Bool.not_true, Bool.not_false]
  unfold s33_p1
  exact hK
theorem alloc_ok {id : Int} (ha : Arn w ab M A) (ht : Tbl w tb pb ab T) (ok : T.Ok) (hs : A.sd.length ≤ 900000)
    (hN : ¬ (0 ≤ id ∧ id < T.ps.length) → K (.tuple #[U32 0, I 6]) w)
    (hS : ∀ i (hi : i < T.ps.length), id = (i : Int) → ∀ w' M', Arn w' ab M' (allocF A T.ps[i]).2.2 → StA w w' ab M M' → K (.tuple #[U32 (allocF A T.ps[i]).1, I (allocF A T.ps[i]).2.1]) w') : cl Tryd.prog 33 #[P tb 0, I id] K w := by
  apply c33
  unfold s33_p10
  refine shapeOf_ok ht (fun hn => ?_) (fun i hi hid hsh => ?_)
  · simp only [e_fd, e_nck, e_pkt, e_pkf, e_gdtt, e_gdtf, e_gdft, e_gdff, e_ift, e_iff, e_not, e_ln, e_lnT, e_cp, e_cvi, e_ex20, e_ex21, e_ex30, e_ex31, e_ex32, e_add, e_sub, e_mul, e_quo, e_rem, e_and, e_or, e_xor, e_shl, e_shr, e_eql, e_neq, e_lss, e_leq, e_gtr, e_geq, e_beq, e_bne, e_peq1, e_peq2, e_pne1, e_pne2, e_zeq1, e_zeq2, e_zne1, e_zne2, e_feq1, e_fne1, e_feq2, e_fne2, e_seq, e_sne, e_ta1, e_ta2, Nat.zero_add, Nat.add_zero, Bool.not_true, Bool.not_false]
    exact hN hn
  · have hS := hS i hi hid
    obtain ⟨hok, _, _⟩ := ok.sh _ (List.getElem_mem hi)
    generalize T.ps[i] = s at *
    have hc := hok.ctl_lt
    have hlim := hok.lim
    have hn2 := hok.n2
    have rg := ha.rng
    simp only [bne_self_eq_false, e_fd, e_nck, e_pkt, e_pkf, e_gdtt, e_gdtf, e_gdft, e_gdff, e_ift, e_iff, e_not, e_ln, e_lnT, e_cp, e_cvi, e_ex20, e_ex21, e_ex30, e_ex31, e_ex32, e_add, e_sub, e_mul, e_quo, e_rem, e_and, e_or, e_xor, e_shl, e_shr, e_eql, e_neq, e_lss, e_leq, e_gtr, e_geq, e_beq, e_bne, e_peq1, e_peq2, e_pne1, e_pne2, e_zeq1, e_zeq2, e_zne1, e_zne2, e_feq1, e_fne1, e_feq2, e_fne2, e_seq, e_sne, e_ta1, e_ta2, Nat.zero_add, Nat.add_zero, Bool.not_true, Bool.not_false]
    refine ld1_r ht.row rfl ?_
    refine charge_ok (n := 1) ha fun w1 h1 hk1 => ?_
    have st1 : StA w w1 ab M M := stA_ab hk1
    have ht1 := ht.stA ha st1
    have hsh1 := hsh.kp st1.kp (fun b l hr => ha.ntag hr (by decide) (by decide) (by decide))
    refine ld1_r ht1.row rfl ?_
    refine newPort h1 fun w2 h2 hk2 => ?_
    have hsh2 := hsh1.kp' hk2
    have fin : ∀ {w' M'}, StP w2 w' ab w1.heap.size M M' → StA w w' ab M M' := fun st => st1.trans (st.toA hk2 (Nat.le_refl _))
    refine sealed_ok h2 hsh2 (by omega) fun w3 h3 st3 => ?_
    have hsh3 := h2.sh st3 hsh2
    unfold allocF at hS
    by_cases e0 : A.ws s.ctl = sealN s
    · have e : (A.ws s.ctl == sealN s) = true := by simpa using e0
      simp only [e, e_fd, e_nck, e_pkt, e_pkf, e_gdtt, e_gdtf, e_gdft, e_gdff, e_ift, e_iff, e_not, e_ln, e_lnT, e_cp, e_cvi, e_ex20, e_ex21, e_ex30, e_ex31, e_ex32, e_add, e_sub, e_mul, e_quo, e_rem, e_and, e_or, e_xor, e_shl, e_shr, e_eql, e_neq, e_lss, e_leq, e_gtr, e_geq, e_beq, e_bne, e_peq1, e_peq2, e_pne1, e_pne2, e_zeq1, e_zeq2, e_zne1, e_zne2, e_feq1, e_fne1, e_feq2, e_fne2, e_seq, e_sne, e_ta1, e_ta2, Nat.zero_add, Nat.add_zero, Bool.not_true, Bool.not_false]
      rw [if_neg (show ¬ A.ws s.ctl ≠ sealN s by simpa using e0)] at hS
      refine hsh3.ld (k := 0) (by decide) rfl rfl ?_
      try simp only [e_fd, e_nck, e_pkt, e_pkf, e_gdtt, e_gdtf, e_gdft, e_gdff, e_ift, e_iff, e_not, e_ln, e_lnT, e_cp, e_cvi, e_ex20, e_ex21, e_ex30, e_ex31, e_ex32, e_add, e_sub, e_mul, e_quo, e_rem, e_and, e_or, e_xor, e_shl, e_shr, e_eql, e_neq, e_lss, e_leq, e_gtr, e_geq, e_beq, e_bne, e_peq1, e_peq2, e_pne1, e_pne2, e_zeq1, e_zeq2, e_zne1, e_zne2, e_feq1, e_fne1, e_feq2, e_fne2, e_seq, e_sne, e_ta1, e_ta2, Nat.zero_add, Nat.add_zero, Bool.not_true, Bool.not_false]
      rw [ctlA (z := 1) (k := 1) rfl hok (by decide)]
      refine pload_ok h3 (by omega) fun w4 h4 st4 => ?_
      have st24 := st3.trans st4
      have hsh4 := h3.sh st4 hsh3
      try simp only [e_fd, e_nck, e_pkt, e_pkf, e_gdtt, e_gdtf, e_gdft, e_gdff, e_ift, e_iff, e_not, e_ln, e_lnT, e_cp, e_cvi, e_ex20, e_ex21, e_ex30, e_ex31, e_ex32, e_add, e_sub, e_mul, e_quo, e_rem, e_and, e_or, e_xor, e_shl, e_shr, e_eql, e_neq, e_lss, e_leq, e_gtr, e_geq, e_beq, e_bne, e_peq1, e_peq2, e_pne1, e_pne2, e_zeq1, e_zeq2, e_zne1, e_zne2, e_feq1, e_fne1, e_feq2, e_fne2, e_seq, e_sne, e_ta1, e_ta2, Nat.zero_add, Nat.add_zero, Bool.not_true, Bool.not_false]
      have hh := rg (s.ctl + 1) (by omega)
      by_cases hz : A.ws (s.ctl + 1) = 0
      · have e : (((A.ws (s.ctl + 1) : Nat) : Int) == 0) = true := by rw [hz]; rfl
        simp only [e, e_fd, e_nck, e_pkt, e_pkf, e_gdtt, e_gdtf, e_gdft, e_gdff, e_ift, e_iff, e_not, e_ln, e_lnT, e_cp, e_cvi, e_ex20, e_ex21, e_ex30, e_ex31, e_ex32, e_add, e_sub, e_mul, e_quo, e_rem, e_and, e_or, e_xor, e_shl, e_shr, e_eql, e_neq, e_lss, e_leq, e_gtr, e_geq, e_beq, e_bne, e_peq1, e_peq2, e_pne1, e_pne2, e_zeq1, e_zeq2, e_zne1, e_zne2, e_feq1, e_fne1, e_feq2, e_fne2, e_seq, e_sne, e_ta1, e_ta2, Nat.zero_add, Nat.add_zero, Bool.not_true, Bool.not_false]
        rw [if_pos hz] at hS
        refine ld1_r h4.port rfl ?_
        simp only [beq_self_eq_true, e_fd, e_nck, e_pkt, e_pkf, e_gdtt, e_gdtf, e_gdft, e_gdff, e_ift, e_iff, e_not, e_ln, e_lnT, e_cp, e_cvi, e_ex20, e_ex21, e_ex30, e_ex31, e_ex32, e_add, e_sub, e_mul, e_quo, e_rem, e_and, e_or, e_xor, e_shl, e_shr, e_eql, e_neq, e_lss, e_leq, e_gtr, e_geq, e_beq, e_bne, e_peq1, e_peq2, e_pne1, e_pne2, e_zeq1, e_zeq2, e_zne1, e_zne2, e_feq1, e_fne1, e_feq2, e_fne2, e_seq, e_sne, e_ta1, e_ta2, Nat.zero_add, Nat.add_zero, Bool.not_true, Bool.not_false]
        refine hsh4.ld (k := 0) (by decide) rfl rfl ?_
        try simp only [e_fd, e_nck, e_pkt, e_pkf, e_gdtt, e_gdtf, e_gdft, e_gdff, e_ift, e_iff, e_not, e_ln, e_lnT, e_cp, e_cvi, e_ex20, e_ex21, e_ex30, e_ex31, e_ex32, e_add, e_sub, e_mul, e_quo, e_rem, e_and, e_or, e_xor, e_shl, e_shr, e_eql, e_neq, e_lss, e_leq, e_gtr, e_geq, e_beq, e_bne, e_peq1, e_peq2, e_pne1, e_pne2, e_zeq1, e_zeq2, e_zne1, e_zne2, e_feq1, e_fne1, e_feq2, e_fne2, e_seq, e_sne, e_ta1, e_ta2, Nat.zero_add, Nat.add_zero, Bool.not_true, Bool.not_false]
        rw [ctlA (z := 4) (k := 4) rfl hok (by decide)]
        refine pload_ok h4 (by omega) fun w5 h5 st5 => ?_
        have hsh5 := h4.sh st5 hsh4
        have st25 := st24.trans st5
        try simp only [e_fd, e_nck, e_pkt, e_pkf, e_gdtt, e_gdtf, e_gdft, e_gdff, e_ift, e_iff, e_not, e_ln, e_lnT, e_cp, e_cvi, e_ex20, e_ex21, e_ex30, e_ex31, e_ex32, e_add, e_sub, e_mul, e_quo, e_rem, e_and, e_or, e_xor, e_shl, e_shr, e_eql, e_neq, e_lss, e_leq, e_gtr, e_geq, e_beq, e_bne, e_peq1, e_peq2, e_pne1, e_pne2, e_zeq1, e_zeq2, e_zne1, e_zne2, e_feq1, e_fne1, e_feq2, e_fne2, e_seq, e_sne, e_ta1, e_ta2, Nat.zero_add, Nat.add_zero, Bool.not_true, Bool.not_false]
        have hf := rg (s.ctl + 4) (by omega)
        by_cases hm : A.ws (s.ctl + 4) = 18446744073709551615
        · have e : (((A.ws (s.ctl + 4) : Nat) : Int) != 18446744073709551615) = false := by rw [hm]; rfl
          simp only [e, e_fd, e_nck, e_pkt, e_pkf, e_gdtt, e_gdtf, e_gdft, e_gdff, e_ift, e_iff, e_not, e_ln, e_lnT, e_cp, e_cvi, e_ex20, e_ex21, e_ex30, e_ex31, e_ex32, e_add, e_sub, e_mul, e_quo, e_rem, e_and, e_or, e_xor, e_shl, e_shr, e_eql, e_neq, e_lss, e_leq, e_gtr, e_geq, e_beq, e_bne, e_peq1, e_peq2, e_pne1, e_pne2, e_zeq1, e_zeq2, e_zne1, e_zne2, e_feq1, e_fne1, e_feq2, e_fne2, e_seq, e_sne, e_ta1, e_ta2, Nat.zero_add, Nat.add_zero, Bool.not_true, Bool.not_false]
          rw [if_neg (show ¬ A.ws (s.ctl + 4) ≠ 18446744073709551615 by omega)] at hS
          refine por_ok h5 ?_
          exact hS w5 M h5.arn (fin st25)
        · have e : (((A.ws (s.ctl + 4) : Nat) : Int) != 18446744073709551615) = true := by rw [bne_iff_ne]; omega
          simp only [e, e_fd, e_nck, e_pkt, e_pkf, e_gdtt, e_gdtf, e_gdft, e_gdff, e_ift, e_iff, e_not, e_ln, e_lnT, e_cp, e_cvi, e_ex20, e_ex21, e_ex30, e_ex31, e_ex32, e_add, e_sub, e_mul, e_quo, e_rem, e_and, e_or, e_xor, e_shl, e_shr, e_eql, e_neq, e_lss, e_leq, e_gtr, e_geq, e_beq, e_bne, e_peq1, e_peq2, e_pne1, e_pne2, e_zeq1, e_zeq2, e_zne1, e_zne2, e_feq1, e_fne1, e_feq2, e_fne2, e_seq, e_sne, e_ta1, e_ta2, Nat.zero_add, Nat.add_zero, Bool.not_true, Bool.not_false]
          rw [if_pos (show A.ws (s.ctl + 4) ≠ 18446744073709551615 by omega)] at hS
          refine hsh5.ld (k := 0) (by decide) rfl rfl ?_
          try simp only [e_fd, e_nck, e_pkt, e_pkf, e_gdtt, e_gdtf, e_gdft, e_gdff, e_ift, e_iff, e_not, e_ln, e_lnT, e_cp, e_cvi, e_ex20, e_ex21, e_ex30, e_ex31, e_ex32, e_add, e_sub, e_mul, e_quo, e_rem, e_and, e_or, e_xor, e_shl, e_shr, e_eql, e_neq, e_lss, e_leq, e_gtr, e_geq, e_beq, e_bne, e_peq1, e_peq2, e_pne1, e_pne2, e_zeq1, e_zeq2, e_zne1, e_zne2, e_feq1, e_fne1, e_feq2, e_fne2, e_seq, e_sne, e_ta1, e_ta2, Nat.zero_add, Nat.add_zero, Bool.not_true, Bool.not_false]
          rw [ctlA (z := 4) (k := 4) rfl hok (by decide), show (((A.ws (s.ctl + 4) : Nat) : Int) + 1) = ((A.ws (s.ctl + 4) + 1 : Nat) : Int) by omega, w64 (by omega)]
          refine pstore_ok h5 (by omega) (by omega) (by show A.sd.length ≤ _; omega) fun w6 M6 h6 st6 => ?_
          refine por_ok h6 ?_
          exact hS w6 M6 h6.arn (fin (st25.trans st6))
      · have e : (((A.ws (s.ctl + 1) : Nat) : Int) == 0) = false := by rw [beq_eq_false_iff_ne]; omega
        simp only [e, e_fd, e_nck, e_pkt, e_pkf, e_gdtt, e_gdtf, e_gdft, e_gdff, e_ift, e_iff, e_not, e_ln, e_lnT, e_cp, e_cvi, e_ex20, e_ex21, e_ex30, e_ex31, e_ex32, e_add, e_sub, e_mul, e_quo, e_rem, e_and, e_or, e_xor, e_shl, e_shr, e_eql, e_neq, e_lss, e_leq, e_gtr, e_geq, e_beq, e_bne, e_peq1, e_peq2, e_pne1, e_pne2, e_zeq1, e_zeq2, e_zne1, e_zne2, e_feq1, e_fne1, e_feq2, e_fne2, e_seq, e_sne, e_ta1, e_ta2, Nat.zero_add, Nat.add_zero, Bool.not_true, Bool.not_false]
        rw [if_neg hz] at hS
        refine hsh4.ld (k := 5) (by decide) rfl rfl ?_
        try simp only [e_fd, e_nck, e_pkt, e_pkf, e_gdtt, e_gdtf, e_gdft, e_gdff, e_ift, e_iff, e_not, e_ln, e_lnT, e_cp, e_cvi, e_ex20, e_ex21, e_ex30, e_ex31, e_ex32, e_add, e_sub, e_mul, e_quo, e_rem, e_and, e_or, e_xor, e_shl, e_shr, e_eql, e_neq, e_lss, e_leq, e_gtr, e_geq, e_beq, e_bne, e_peq1, e_peq2, e_pne1, e_pne2, e_zeq1, e_zeq2, e_zne1, e_zne2, e_feq1, e_fne1, e_feq2, e_fne2, e_seq, e_sne, e_ta1, e_ta2, Nat.zero_add, Nat.add_zero, Bool.not_true, Bool.not_false]
        rw [w64 (show s.n < 18446744073709551616 by omega)]
        by_cases hgt : s.n < A.ws (s.ctl + 1)
        · have hgt' : ((s.n : Nat) : Int) < ((A.ws (s.ctl + 1) : Nat) : Int) := by omega
          simp only [hgt', decide_true, e_fd, e_nck, e_pkt, e_pkf, e_gdtt, e_gdtf, e_gdft, e_gdff, e_ift, e_iff, e_not, e_ln, e_lnT, e_cp, e_cvi, e_ex20, e_ex21, e_ex30, e_ex31, e_ex32, e_add, e_sub, e_mul, e_quo, e_rem, e_and, e_or, e_xor, e_shl, e_shr, e_eql, e_neq, e_lss, e_leq, e_gtr, e_geq, e_beq, e_bne, e_peq1, e_peq2, e_pne1, e_pne2, e_zeq1, e_zeq2, e_zne1, e_zne2, e_feq1, e_fne1, e_feq2, e_fne2, e_seq, e_sne, e_ta1, e_ta2, Nat.zero_add, Nat.add_zero, Bool.not_true, Bool.not_false]
          rw [if_pos hgt] at hS
          refine por_ok h4 ?_
          exact hS w4 M h4.arn (fin st24)
        · have hgt' : ¬ ((s.n : Nat) : Int) < ((A.ws (s.ctl + 1) : Nat) : Int) := by omega
          simp only [hgt', decide_false, e_fd, e_nck, e_pkt, e_pkf, e_gdtt, e_gdtf, e_gdft, e_gdff, e_ift, e_iff, e_not, e_ln, e_lnT, e_cp, e_cvi, e_ex20, e_ex21, e_ex30, e_ex31, e_ex32, e_add, e_sub, e_mul, e_quo, e_rem, e_and, e_or, e_xor, e_shl, e_shr, e_eql, e_neq, e_lss, e_leq, e_gtr, e_geq, e_beq, e_bne, e_peq1, e_peq2, e_pne1, e_pne2, e_zeq1, e_zeq2, e_zne1, e_zne2, e_feq1, e_fne1, e_feq2, e_fne2, e_seq, e_sne, e_ta1, e_ta2, Nat.zero_add, Nat.add_zero, Bool.not_true, Bool.not_false]
          rw [if_neg hgt] at hS
          refine ld1_r h4.port rfl ?_
          simp only [bne_self_eq_false, e_fd, e_nck, e_pkt, e_pkf, e_gdtt, e_gdtf, e_gdft, e_gdff, e_ift, e_iff, e_not, e_ln, e_lnT, e_cp, e_cvi, e_ex20, e_ex21, e_ex30, e_ex31, e_ex32, e_add, e_sub, e_mul, e_quo, e_rem, e_and, e_or, e_xor, e_shl, e_shr, e_eql, e_neq, e_lss, e_leq, e_gtr, e_geq, e_beq, e_bne, e_peq1, e_peq2, e_pne1, e_pne2, e_zeq1, e_zeq2, e_zne1, e_zne2, e_feq1, e_fne1, e_feq2, e_fne2, e_seq, e_sne, e_ta1, e_ta2, Nat.zero_add, Nat.add_zero, Bool.not_true, Bool.not_false]
          obtain ⟨x, hx⟩ : ∃ x, A.ws (s.ctl + 1) - 1 = x := ⟨_, rfl⟩
          have hxn : x < s.n := by omega
          have hbk := hok.bk_lt hxn
          have hmc := hok.mc_lt hxn
          have hfst := hok.fst
          have hbw := hok.bw1
          rw [hx] at hS
          rw [show (((A.ws (s.ctl + 1) : Nat) : Int) - 1) = ((x : Nat) : Int) by omega, w64 (show x < 18446744073709551616 by omega), w32 (show x < 4294967296 by omega)]
          refine blockAt_ok hsh4 (by omega) fun w5 hk5 => ?_
          have h5 := h4.kp' hk5
          have hsh5 := hsh4.kp' hk5
          refine mapCell_ok hsh5 (by omega) (by omega) ?_
          try simp only [e_fd, e_nck, e_pkt, e_pkf, e_gdtt, e_gdtf, e_gdft, e_gdff, e_ift, e_iff, e_not, e_ln, e_lnT, e_cp, e_cvi, e_ex20, e_ex21, e_ex30, e_ex31, e_ex32, e_add, e_sub, e_mul, e_quo, e_rem, e_and, e_or, e_xor, e_shl, e_shr, e_eql, e_neq, e_lss, e_leq, e_gtr, e_geq, e_beq, e_bne, e_peq1, e_peq2, e_pne1, e_pne2, e_zeq1, e_zeq2, e_zne1, e_zne2, e_feq1, e_fne1, e_feq2, e_fne2, e_seq, e_sne, e_ta1, e_ta2, Nat.zero_add, Nat.add_zero, Bool.not_true, Bool.not_false]
          have st25 := st24.trans (StP.of (p := w1.heap.size) (ab := ab) (M := M) hk5 (fun _ _ q => q.elim))
          refine pload_ok h5 (by omega) fun w6 h6 st6 => ?_
          refine pload_ok h6 (by omega) fun w7 h7 st7 => ?_
          have st27 := (st25.trans st6).trans st7
          have hsh7 := h6.sh st7 (h5.sh st6 hsh5)
          refine hsh7.ld (k := 0) (by decide) rfl rfl ?_
          try simp only [e_fd, e_nck, e_pkt, e_pkf, e_gdtt, e_gdtf, e_gdft, e_gdff, e_ift, e_iff, e_not, e_ln, e_lnT, e_cp, e_cvi, e_ex20, e_ex21, e_ex30, e_ex31, e_ex32, e_add, e_sub, e_mul, e_quo, e_rem, e_and, e_or, e_xor, e_shl, e_shr, e_eql, e_neq, e_lss, e_leq, e_gtr, e_geq, e_beq, e_bne, e_peq1, e_peq2, e_pne1, e_pne2, e_zeq1, e_zeq2, e_zne1, e_zne2, e_feq1, e_fne1, e_feq2, e_fne2, e_seq, e_sne, e_ta1, e_ta2, Nat.zero_add, Nat.add_zero, Bool.not_true, Bool.not_false]
          rw [ctlA (z := 2) (k := 2) rfl hok (by decide)]
          refine pload_ok h7 (by omega) fun w8 h8 st8 => ?_
          have hsh8 := h7.sh st8 hsh7
          refine hsh8.ld (k := 0) (by decide) rfl rfl ?_
          try simp only [e_fd, e_nck, e_pkt, e_pkf, e_gdtt, e_gdtf, e_gdft, e_gdff, e_ift, e_iff, e_not, e_ln, e_lnT, e_cp, e_cvi, e_ex20, e_ex21, e_ex30, e_ex31, e_ex32, e_add, e_sub, e_mul, e_quo, e_rem, e_and, e_or, e_xor, e_shl, e_shr, e_eql, e_neq, e_lss, e_leq, e_gtr, e_geq, e_beq, e_bne, e_peq1, e_peq2, e_pne1, e_pne2, e_zeq1, e_zeq2, e_zne1, e_zne2, e_feq1, e_fne1, e_feq2, e_fne2, e_seq, e_sne, e_ta1, e_ta2, Nat.zero_add, Nat.add_zero, Bool.not_true, Bool.not_false]
          rw [ctlA (z := 3) (k := 3) rfl hok (by decide)]
          refine pload_ok h8 (by omega) fun w9 h9 st9 => ?_
          have hsh9 := h8.sh st9 hsh8
          have st29 := (st27.trans st8).trans st9
          try simp only [e_fd, e_nck, e_pkt, e_pkf, e_gdtt, e_gdtf, e_gdft, e_gdff, e_ift, e_iff, e_not, e_ln, e_lnT, e_cp, e_cvi, e_ex20, e_ex21, e_ex30, e_ex31, e_ex32, e_add, e_sub, e_mul, e_quo, e_rem, e_and, e_or, e_xor, e_shl, e_shr, e_eql, e_neq, e_lss, e_leq, e_gtr, e_geq, e_beq, e_bne, e_peq1, e_peq2, e_pne1, e_pne2, e_zeq1, e_zeq2, e_zne1, e_zne2, e_feq1, e_fne1, e_feq2, e_fne2, e_seq, e_sne, e_ta1, e_ta2, Nat.zero_add, Nat.add_zero, Bool.not_true, Bool.not_false]
          refine ld1_r h9.port rfl ?_
          simp only [bne_self_eq_false, e_fd, e_nck, e_pkt, e_pkf, e_gdtt, e_gdtf, e_gdft, e_gdff, e_ift, e_iff, e_not, e_ln, e_lnT, e_cp, e_cvi, e_ex20, e_ex21, e_ex30, e_ex31, e_ex32, e_add, e_sub, e_mul, e_quo, e_rem, e_and, e_or, e_xor, e_shl, e_shr, e_eql, e_neq, e_lss, e_leq, e_gtr, e_geq, e_beq, e_bne, e_peq1, e_peq2, e_pne1, e_pne2, e_zeq1, e_zeq2, e_zne1, e_zne2, e_feq1, e_fne1, e_feq2, e_fne2, e_seq, e_sne, e_ta1, e_ta2, Nat.zero_add, Nat.add_zero, Bool.not_true, Bool.not_false]
          unfold s33_p9
          try simp only [e_fd, e_nck, e_pkt, e_pkf, e_gdtt, e_gdtf, e_gdft, e_gdff, e_ift, e_iff, e_not, e_ln, e_lnT, e_cp, e_cvi, e_ex20, e_ex21, e_ex30, e_ex31, e_ex32, e_add, e_sub, e_mul, e_quo, e_rem, e_and, e_or, e_xor, e_shl, e_shr, e_eql, e_neq, e_lss, e_leq, e_gtr, e_geq, e_beq, e_bne, e_peq1, e_peq2, e_pne1, e_pne2, e_zeq1, e_zeq2, e_zne1, e_zne2, e_feq1, e_fne1, e_feq2, e_fne2, e_seq, e_sne, e_ta1, e_ta2, Nat.zero_add, Nat.add_zero, Bool.not_true, Bool.not_false]
          unfold s33_p6
          try simp only [e_fd, e_nck, e_pkt, e_pkf, e_gdtt, e_gdtf, e_gdft, e_gdff, e_ift, e_iff, e_not, e_ln, e_lnT, e_cp, e_cvi, e_ex20, e_ex21, e_ex30, e_ex31, e_ex32, e_add, e_sub, e_mul, e_quo, e_rem, e_and, e_or, e_xor, e_shl, e_shr, e_eql, e_neq, e_lss, e_leq, e_gtr, e_geq, e_beq, e_bne, e_peq1, e_peq2, e_pne1, e_pne2, e_zeq1, e_zeq2, e_zne1, e_zne2, e_feq1, e_fne1, e_feq2, e_fne2, e_seq, e_sne, e_ta1, e_ta2, Nat.zero_add, Nat.add_zero, Bool.not_true, Bool.not_false]
          have b1 := rg (s.mc x) (by omega)
          have b2 := rg (s.bk x) (by omega)
          have b3 := rg (s.ctl + 2) (by omega)
          have b4 := rg (s.ctl + 3) (by omega)
          have bb := bitN_lt x
          rw [and64 b1 bb]
          have bad : (A.ws (s.mc x) &&& bitN x ≠ 0 ∨ s.n < A.ws (s.bk x) ∨ s.n ≤ A.ws (s.ctl + 2) ∨ A.ws (s.ctl + 3) < A.ws (s.ctl + 2) ∨ s.n < A.ws (s.ctl + 3)) → K (.tuple #[U32 0, I 11]) w9 := by
            intro q
            rw [if_pos q] at hS
            exact hS w9 M h9.arn (fin st29)
          by_cases q1 : A.ws (s.mc x) &&& bitN x = 0
          · have e1 : (((A.ws (s.mc x) &&& bitN x : Nat) : Int) != 0) = false := by rw [q1]; rfl
            simp only [e1, e_fd, e_nck, e_pkt, e_pkf, e_gdtt, e_gdtf, e_gdft, e_gdff, e_ift, e_iff, e_not, e_ln, e_lnT, e_cp, e_cvi, e_ex20, e_ex21, e_ex30, e_ex31, e_ex32, e_add, e_sub, e_mul, e_quo, e_rem, e_and, e_or, e_xor, e_shl, e_shr, e_eql, e_neq, e_lss, e_leq, e_gtr, e_geq, e_beq, e_bne, e_peq1, e_peq2, e_pne1, e_pne2, e_zeq1, e_zeq2, e_zne1, e_zne2, e_feq1, e_fne1, e_feq2, e_fne2, e_seq, e_sne, e_ta1, e_ta2, Nat.zero_add, Nat.add_zero, Bool.not_true, Bool.not_false]
            by_cases q2 : s.n < A.ws (s.bk x)
            · have q2' : ((s.n : Nat) : Int) < ((A.ws (s.bk x) : Nat) : Int) := by omega
              simp only [q2', decide_true, e_fd, e_nck, e_pkt, e_pkf, e_gdtt, e_gdtf, e_gdft, e_gdff, e_ift, e_iff, e_not, e_ln, e_lnT, e_cp, e_cvi, e_ex20, e_ex21, e_ex30, e_ex31, e_ex32, e_add, e_sub, e_mul, e_quo, e_rem, e_and, e_or, e_xor, e_shl, e_shr, e_eql, e_neq, e_lss, e_leq, e_gtr, e_geq, e_beq, e_bne, e_peq1, e_peq2, e_pne1, e_pne2, e_zeq1, e_zeq2, e_zne1, e_zne2, e_feq1, e_fne1, e_feq2, e_fne2, e_seq, e_sne, e_ta1, e_ta2, Nat.zero_add, Nat.add_zero, Bool.not_true, Bool.not_false]
              exact bad (.inr (.inl q2))
            · have q2' : ¬ ((s.n : Nat) : Int) < ((A.ws (s.bk x) : Nat) : Int) := by omega
              simp only [q2', decide_false, e_fd, e_nck, e_pkt, e_pkf, e_gdtt, e_gdtf, e_gdft, e_gdff, e_ift, e_iff, e_not, e_ln, e_lnT, e_cp, e_cvi, e_ex20, e_ex21, e_ex30, e_ex31, e_ex32, e_add, e_sub, e_mul, e_quo, e_rem, e_and, e_or, e_xor, e_shl, e_shr, e_eql, e_neq, e_lss, e_leq, e_gtr, e_geq, e_beq, e_bne, e_peq1, e_peq2, e_pne1, e_pne2, e_zeq1, e_zeq2, e_zne1, e_zne2, e_feq1, e_fne1, e_feq2, e_fne2, e_seq, e_sne, e_ta1, e_ta2, Nat.zero_add, Nat.add_zero, Bool.not_true, Bool.not_false]
              by_cases q3 : s.n ≤ A.ws (s.ctl + 2)
              · have q3' : ((s.n : Nat) : Int) ≤ ((A.ws (s.ctl + 2) : Nat) : Int) := by omega
                simp only [q3', decide_true, e_fd, e_nck, e_pkt, e_pkf, e_gdtt, e_gdtf, e_gdft, e_gdff, e_ift, e_iff, e_not, e_ln, e_lnT, e_cp, e_cvi, e_ex20, e_ex21, e_ex30, e_ex31, e_ex32, e_add, e_sub, e_mul, e_quo, e_rem, e_and, e_or, e_xor, e_shl, e_shr, e_eql, e_neq, e_lss, e_leq, e_gtr, e_geq, e_beq, e_bne, e_peq1, e_peq2, e_pne1, e_pne2, e_zeq1, e_zeq2, e_zne1, e_zne2, e_feq1, e_fne1, e_feq2, e_fne2, e_seq, e_sne, e_ta1, e_ta2, Nat.zero_add, Nat.add_zero, Bool.not_true, Bool.not_false]
                exact bad (.inr (.inr (.inl q3)))
              · have q3' : ¬ ((s.n : Nat) : Int) ≤ ((A.ws (s.ctl + 2) : Nat) : Int) := by omega
                simp only [q3', decide_false, e_fd, e_nck, e_pkt, e_pkf, e_gdtt, e_gdtf, e_gdft, e_gdff, e_ift, e_iff, e_not, e_ln, e_lnT, e_cp, e_cvi, e_ex20, e_ex21, e_ex30, e_ex31, e_ex32, e_add, e_sub, e_mul, e_quo, e_rem, e_and, e_or, e_xor, e_shl, e_shr, e_eql, e_neq, e_lss, e_leq, e_gtr, e_geq, e_beq, e_bne, e_peq1, e_peq2, e_pne1, e_pne2, e_zeq1, e_zeq2, e_zne1, e_zne2, e_feq1, e_fne1, e_feq2, e_fne2, e_seq, e_sne, e_ta1, e_ta2, Nat.zero_add, Nat.add_zero, Bool.not_true, Bool.not_false]
                by_cases q4 : A.ws (s.ctl + 3) < A.ws (s.ctl + 2)
                · have q4' : ((A.ws (s.ctl + 3) : Nat) : Int) < ((A.ws (s.ctl + 2) : Nat) : Int) := by omega
                  simp only [q4', decide_true, e_fd, e_nck, e_pkt, e_pkf, e_gdtt, e_gdtf, e_gdft, e_gdff, e_ift, e_iff, e_not, e_ln, e_lnT, e_cp, e_cvi, e_ex20, e_ex21, e_ex30, e_ex31, e_ex32, e_add, e_sub, e_mul, e_quo, e_rem, e_and, e_or, e_xor, e_shl, e_shr, e_eql, e_neq, e_lss, e_leq, e_gtr, e_geq, e_beq, e_bne, e_peq1, e_peq2, e_pne1, e_pne2, e_zeq1, e_zeq2, e_zne1, e_zne2, e_feq1, e_fne1, e_feq2, e_fne2, e_seq, e_sne, e_ta1, e_ta2, Nat.zero_add, Nat.add_zero, Bool.not_true, Bool.not_false]
                  exact bad (.inr (.inr (.inr (.inl q4))))
                · have q4' : ¬ ((A.ws (s.ctl + 3) : Nat) : Int) < ((A.ws (s.ctl + 2) : Nat) : Int) := by omega
                  simp only [q4', decide_false, e_fd, e_nck, e_pkt, e_pkf, e_gdtt, e_gdtf, e_gdft, e_gdff, e_ift, e_iff, e_not, e_ln, e_lnT, e_cp, e_cvi, e_ex20, e_ex21, e_ex30, e_ex31, e_ex32, e_add, e_sub, e_mul, e_quo, e_rem, e_and, e_or, e_xor, e_shl, e_shr, e_eql, e_neq, e_lss, e_leq, e_gtr, e_geq, e_beq, e_bne, e_peq1, e_peq2, e_pne1, e_pne2, e_zeq1, e_zeq2, e_zne1, e_zne2, e_feq1, e_fne1, e_feq2, e_fne2, e_seq, e_sne, e_ta1, e_ta2, Nat.zero_add, Nat.add_zero, Bool.not_true, Bool.not_false]
                  by_cases q5 : s.n < A.ws (s.ctl + 3)
                  · have q5' : ((s.n : Nat) : Int) < ((A.ws (s.ctl + 3) : Nat) : Int) := by omega
                    simp only [q5', decide_true, e_fd, e_nck, e_pkt, e_pkf, e_gdtt, e_gdtf, e_gdft, e_gdff, e_ift, e_iff, e_not, e_ln, e_lnT, e_cp, e_cvi, e_ex20, e_ex21, e_ex30, e_ex31, e_ex32, e_add, e_sub, e_mul, e_quo, e_rem, e_and, e_or, e_xor, e_shl, e_shr, e_eql, e_neq, e_lss, e_leq, e_gtr, e_geq, e_beq, e_bne, e_peq1, e_peq2, e_pne1, e_pne2, e_zeq1, e_zeq2, e_zne1, e_zne2, e_feq1, e_fne1, e_feq2, e_fne2, e_seq, e_sne, e_ta1, e_ta2, Nat.zero_add, Nat.add_zero, Bool.not_true, Bool.not_false]
                    exact bad (.inr (.inr (.inr (.inr q5))))
                  · have q5' : ¬ ((s.n : Nat) : Int) < ((A.ws (s.ctl + 3) : Nat) : Int) := by omega
                    simp only [q5', decide_false, e_fd, e_nck, e_pkt, e_pkf, e_gdtt, e_gdtf, e_gdft, e_gdff, e_ift, e_iff, e_not, e_ln, e_lnT, e_cp, e_cvi, e_ex20, e_ex21, e_ex30, e_ex31, e_ex32, e_add, e_sub, e_mul, e_quo, e_rem, e_and, e_or, e_xor, e_shl, e_shr, e_eql, e_neq, e_lss, e_leq, e_gtr, e_geq, e_beq, e_bne, e_peq1, e_peq2, e_pne1, e_pne2, e_zeq1, e_zeq2, e_zne1, e_zne2, e_feq1, e_fne1, e_feq2, e_fne2, e_seq, e_sne, e_ta1, e_ta2, Nat.zero_add, Nat.add_zero, Bool.not_true, Bool.not_false]
                    rw [if_neg (by omega)] at hS
                    refine hsh9.ld (k := 0) (by decide) rfl rfl ?_
                    try simp only [e_fd, e_nck, e_pkt, e_pkf, e_gdtt, e_gdtf, e_gdft, e_gdff, e_ift, e_iff, e_not, e_ln, e_lnT, e_cp, e_cvi, e_ex20, e_ex21, e_ex30, e_ex31, e_ex32, e_add, e_sub, e_mul, e_quo, e_rem, e_and, e_or, e_xor, e_shl, e_shr, e_eql, e_neq, e_lss, e_leq, e_gtr, e_geq, e_beq, e_bne, e_peq1, e_peq2, e_pne1, e_pne2, e_zeq1, e_zeq2, e_zne1, e_zne2, e_feq1, e_fne1, e_feq2, e_fne2, e_seq, e_sne, e_ta1, e_ta2, Nat.zero_add, Nat.add_zero, Bool.not_true, Bool.not_false]
                    rw [ctlA (z := 1) (k := 1) rfl hok (by decide)]
                    refine pstore_ok h9 (by omega) b2 (by show A.sd.length ≤ _; omega) fun w10 M10 h10 st10 => ?_
                    have hsh10 := h9.sh st10 hsh9
                    try simp only [e_fd, e_nck, e_pkt, e_pkf, e_gdtt, e_gdtf, e_gdft, e_gdff, e_ift, e_iff, e_not, e_ln, e_lnT, e_cp, e_cvi, e_ex20, e_ex21, e_ex30, e_ex31, e_ex32, e_add, e_sub, e_mul, e_quo, e_rem, e_and, e_or, e_xor, e_shl, e_shr, e_eql, e_neq, e_lss, e_leq, e_gtr, e_geq, e_beq, e_bne, e_peq1, e_peq2, e_pne1, e_pne2, e_zeq1, e_zeq2, e_zne1, e_zne2, e_feq1, e_fne1, e_feq2, e_fne2, e_seq, e_sne, e_ta1, e_ta2, Nat.zero_add, Nat.add_zero, Bool.not_true, Bool.not_false]
                    rw [or64 b1 bb]
                    refine pstore_ok h10 (by omega) (or64_lt b1 bb) (by show (A.sd ++ [_]).length ≤ _; rw [List.length_append]; simp; omega) fun w11 M11 h11 st11 => ?_
                    have hsh11 := h10.sh st11 hsh10
                    refine hsh11.ld (k := 0) (by decide) rfl rfl ?_
                    try simp only [e_fd, e_nck, e_pkt, e_pkf, e_gdtt, e_gdtf, e_gdft, e_gdff, e_ift, e_iff, e_not, e_ln, e_lnT, e_cp, e_cvi, e_ex20, e_ex21, e_ex30, e_ex31, e_ex32, e_add, e_sub, e_mul, e_quo, e_rem, e_and, e_or, e_xor, e_shl, e_shr, e_eql, e_neq, e_lss, e_leq, e_gtr, e_geq, e_beq, e_bne, e_peq1, e_peq2, e_pne1, e_pne2, e_zeq1, e_zeq2, e_zne1, e_zne2, e_feq1, e_fne1, e_feq2, e_fne2, e_seq, e_sne, e_ta1, e_ta2, Nat.zero_add, Nat.add_zero, Bool.not_true, Bool.not_false]
                    rw [ctlA (z := 2) (k := 2) rfl hok (by decide), show (((A.ws (s.ctl + 2) : Nat) : Int) + 1) = ((A.ws (s.ctl + 2) + 1 : Nat) : Int) by omega, w64 (by omega)]
                    refine pstore_ok h11 (by omega) (by omega) (by show ((A.sd ++ [_]) ++ [_]).length ≤ _; simp; omega) fun w12 M12 h12 st12 => ?_
                    have hsh12 := h11.sh st12 hsh11
                    try simp only [e_fd, e_nck, e_pkt, e_pkf, e_gdtt, e_gdtf, e_gdft, e_gdff, e_ift, e_iff, e_not, e_ln, e_lnT, e_cp, e_cvi, e_ex20, e_ex21, e_ex30, e_ex31, e_ex32, e_add, e_sub, e_mul, e_quo, e_rem, e_and, e_or, e_xor, e_shl, e_shr, e_eql, e_neq, e_lss, e_leq, e_gtr, e_geq, e_beq, e_bne, e_peq1, e_peq2, e_pne1, e_pne2, e_zeq1, e_zeq2, e_zne1, e_zne2, e_feq1, e_fne1, e_feq2, e_fne2, e_seq, e_sne, e_ta1, e_ta2, Nat.zero_add, Nat.add_zero, Bool.not_true, Bool.not_false]
                    have st212 := ((st29.trans st10).trans st11).trans st12
                    by_cases q6 : A.ws (s.ctl + 3) < A.ws (s.ctl + 2) + 1
                    · have q6' : ((A.ws (s.ctl + 3) : Nat) : Int) < ((A.ws (s.ctl + 2) + 1 : Nat) : Int) := by omega
                      simp only [q6', decide_true, e_fd, e_nck, e_pkt, e_pkf, e_gdtt, e_gdtf, e_gdft, e_gdff, e_ift, e_iff, e_not, e_ln, e_lnT, e_cp, e_cvi, e_ex20, e_ex21, e_ex30, e_ex31, e_ex32, e_add, e_sub, e_mul, e_quo, e_rem, e_and, e_or, e_xor, e_shl, e_shr, e_eql, e_neq, e_lss, e_leq, e_gtr, e_geq, e_beq, e_bne, e_peq1, e_peq2, e_pne1, e_pne2, e_zeq1, e_zeq2, e_zne1, e_zne2, e_feq1, e_fne1, e_feq2, e_fne2, e_seq, e_sne, e_ta1, e_ta2, Nat.zero_add, Nat.add_zero, Bool.not_true, Bool.not_false]
                      rw [if_pos q6] at hS
                      refine hsh12.ld (k := 0) (by decide) rfl rfl ?_
                      try simp only [e_fd, e_nck, e_pkt, e_pkf, e_gdtt, e_gdtf, e_gdft, e_gdff, e_ift, e_iff, e_not, e_ln, e_lnT, e_cp, e_cvi, e_ex20, e_ex21, e_ex30, e_ex31, e_ex32, e_add, e_sub, e_mul, e_quo, e_rem, e_and, e_or, e_xor, e_shl, e_shr, e_eql, e_neq, e_lss, e_leq, e_gtr, e_geq, e_beq, e_bne, e_peq1, e_peq2, e_pne1, e_pne2, e_zeq1, e_zeq2, e_zne1, e_zne2, e_feq1, e_fne1, e_feq2, e_fne2, e_seq, e_sne, e_ta1, e_ta2, Nat.zero_add, Nat.add_zero, Bool.not_true, Bool.not_false]
                      rw [ctlA (z := 3) (k := 3) rfl hok (by decide)]
                      refine pstore_ok h12 (by omega) (by omega) (by show (((A.sd ++ [_]) ++ [_]) ++ [_]).length ≤ _; simp; omega) fun w13 M13 h13 st13 => ?_
                      exact alloc_end h13 (hS w13 M13 h13.arn (fin (st212.trans st13)))
                    · have q6' : ¬ ((A.ws (s.ctl + 3) : Nat) : Int) < ((A.ws (s.ctl + 2) + 1 : Nat) : Int) := by omega
                      simp only [q6', decide_false, e_fd, e_nck, e_pkt, e_pkf, e_gdtt, e_gdtf, e_gdft, e_gdff, e_ift, e_iff, e_not, e_ln, e_lnT, e_cp, e_cvi, e_ex20, e_ex21, e_ex30, e_ex31, e_ex32, e_add, e_sub, e_mul, e_quo, e_rem, e_and, e_or, e_xor, e_shl, e_shr, e_eql, e_neq, e_lss, e_leq, e_gtr, e_geq, e_beq, e_bne, e_peq1, e_peq2, e_pne1, e_pne2, e_zeq1, e_zeq2, e_zne1, e_zne2, e_feq1, e_fne1, e_feq2, e_fne2, e_seq, e_sne, e_ta1, e_ta2, Nat.zero_add, Nat.add_zero, Bool.not_true, Bool.not_false]
                      rw [if_neg q6] at hS
                      exact alloc_end h12 (hS w12 M12 h12.arn (fin st212))
          · have e1 : (((A.ws (s.mc x) &&& bitN x : Nat) : Int) != 0) = true := by rw [bne_iff_ne]; omega
            simp only [e1, e_fd, e_nck, e_pkt, e_pkf, e_gdtt, e_gdtf, e_gdft, e_gdff, e_ift, e_iff, e_not, e_ln, e_lnT, e_cp, e_cvi, e_ex20, e_ex21, e_ex30, e_ex31, e_ex32, e_add, e_sub, e_mul, e_quo, e_rem, e_and, e_or, e_xor, e_shl, e_shr, e_eql, e_neq, e_lss, e_leq, e_gtr, e_geq, e_beq, e_bne, e_peq1, e_peq2, e_pne1, e_pne2, e_zeq1, e_zeq2, e_zne1, e_zne2, e_feq1, e_fne1, e_feq2, e_fne2, e_seq, e_sne, e_ta1, e_ta2, Nat.zero_add, Nat.add_zero, Bool.not_true, Bool.not_false]
            exact bad (.inl q1)
    · have e : (A.ws s.ctl == sealN s) = false := by simpa using e0
      simp only [e, e_fd, e_nck, e_pkt, e_pkf, e_gdtt, e_gdtf, e_gdft, e_gdff, e_ift, e_iff, e_not, e_ln, e_lnT, e_cp, e_cvi, e_ex20, e_ex21, e_ex30, e_ex31, e_ex32, e_add, e_sub, e_mul, e_quo, e_rem, e_and, e_or, e_xor, e_shl, e_shr, e_eql, e_neq, e_lss, e_leq, e_gtr, e_geq, e_beq, e_bne, e_peq1, e_peq2, e_pne1, e_pne2, e_zeq1, e_zeq2, e_zne1, e_zne2, e_feq1, e_fne1, e_feq2, e_fne2, e_seq, e_sne, e_ta1, e_ta2, Nat.zero_add, Nat.add_zero, Bool.not_true, Bool.not_false]
      rw [if_pos e0] at hS
      refine por_ok h3 ?_
      exact hS w3 M h3.arn (fin st3)
end
end Go.Proofs.Qxb6500893aDoor
