import Derived.Test.Qxb6500893aDoorA1
namespace Go.Proofs.Qxb6500893aDoor
open Go.Sh Go.RowKit
set_option linter.unusedVariables false
set_option linter.unusedSimpArgs false

/-- the shape of a pool -/
structure Shp where
  ctl : Nat
  bm : Nat
  fst : Nat
  fin : Nat
  bw : Nat
  n : Nat
def shV (s : Shp) : List Value := [U32 s.ctl, U32 s.bm, U32 s.fst, U32 s.fin, U32 s.bw, U32 s.n]
theorem shV_len (s : Shp) : (shV s).length = 6 := rfl
def mapW (n : Nat) : Nat := (n + 63) / 64
structure Shp.Ok (s : Shp) : Prop where
  bm : s.bm = s.ctl + 5
  fst : s.fst = s.bm + mapW s.n
  fin : s.fin = s.fst + s.n * s.bw
  bw1 : 1 ≤ s.bw
  bw2 : s.bw ≤ 4096
  n1 : 1 ≤ s.n
  n2 : s.n ≤ 65536
  lim : s.fin ≤ 4096
/-- a shape in memory -/
def ShAt (w : World) (sb so : Nat) (s : Shp) : Prop := ∃ l, Row w sb 112 l ∧ ∀ j, j < 6 → l[so + j]? = (shV s)[j]?

section
variable {w w' w'' : World} {ab p sb so : Nat} {M M' M'' : Am} {A : Ar} {K : Value → World → Prop} {T : Nat → Prop} {s : Shp}
theorem ShAt.kp (h : ShAt w sb so s) (hk : Kp T w w') (hn : ∀ b l, Row w b 112 l → ¬ T b) : ShAt w' sb so s := by
  obtain ⟨l, h1, h2⟩ := h
  exact ⟨l, hk.row h1 (hn _ _ h1), h2⟩
theorem ShAt.kp' (h : ShAt w sb so s) (hk : Kp (fun _ => False) w w') : ShAt w' sb so s := h.kp hk (fun _ _ _ q => q)
theorem ShAt.ld {k : Nat} {v : Value} {o : Nat} (h : ShAt w sb so s) (hk : k < 6) (ho : o = so + k) (hv : (shV s)[k]? = some v) (hK : K v w) : ld1 (P sb o) K w := by
  obtain ⟨l, h1, h2⟩ := h
  subst ho
  exact ld1_r h1 (by rw [h2 k hk]; exact hv) hK

/-- an arena behind a port that has met no refusal -/
structure Pt (w : World) (ab p : Nat) (M : Am) (A : Ar) : Prop where
  arn : Arn w ab M A
  port : Row w p 121 [P ab 0, I 0]
structure StP (w w' : World) (ab p : Nat) (M M' : Am) : Prop where
  kp : Kp (fun b => OwnA ab M b ∨ b = p) w w'
  wb : M'.wb = M.wb
  own : ∀ b, M'.sob = some b → M.sob = some b ∨ w.heap.size ≤ b
theorem StP.refl (w : World) (ab p : Nat) (M : Am) : StP w w ab p M M := ⟨Kp.refl _ _, rfl, fun _ h => .inl h⟩
theorem StP.own' (h : StP w w' ab p M M') {b : Nat} (hb : OwnA ab M' b) : OwnA ab M b ∨ w.heap.size ≤ b := by
  rcases hb with q | q | q
  · exact .inl (.inl q)
  · exact .inl (.inr (.inl (by rw [q, h.wb])))
  · exact (h.own b q).elim (fun q => .inl (.inr (.inr q))) .inr
theorem StP.trans (h : StP w w' ab p M M') (h' : StP w' w'' ab p M' M'') : StP w w'' ab p M M'' := by
  refine ⟨h.kp.then h'.kp (fun k hk q => ?_), h'.wb.trans h.wb, fun b hb => ?_⟩
  · rcases q with q | q
    · exact .inl ((h.own' q).resolve_right (by omega))
    · exact .inr q
  · rcases h'.own b hb with q | q
    · exact h.own b q
    · exact .inr (Nat.le_trans h.kp.size q)
theorem StP.of (hk : Kp T w w') (hT : ∀ b, b < w.heap.size → T b → OwnA ab M b ∨ b = p) : StP w w' ab p M M := ⟨hk.mono hT, rfl, fun _ h => .inl h⟩
theorem StP.ofA (h : StA w w' ab M M') : StP w w' ab p M M' := ⟨h.kp.mono fun _ _ q => .inl q, h.wb, h.own⟩
/-- the port is new -/
theorem StP.toA {w0 : World} (h : StP w w' ab p M M') (h0 : Kp (fun _ => False) w0 w) (hp : w0.heap.size ≤ p) : StA w0 w' ab M M' :=
  ⟨h0.none.then h.kp (fun k hk q => q.elim id (fun q => by omega)), h.wb, fun b hb => (h.own b hb).elim .inl (fun q => .inr (Nat.le_trans h0.size q))⟩
theorem Pt.keep (h : Pt w ab p M A) (st : StP w w' ab p M M') {b : Nat} {t : TypeId} {l : List Value} (hr : Row w b t l) (h1 : t ≠ 114) (h2 : t ≠ 71) (h3 : t ≠ 31) (h4 : t ≠ 121) : Row w' b t l :=
  st.kp.row hr (fun q => q.elim (h.arn.ntag hr h1 h2 h3) (fun q => row_ne hr h.port h4 q))
theorem Pt.sh (h : Pt w ab p M A) (st : StP w w' ab p M M') (hs : ShAt w sb so s) : ShAt w' sb so s :=
  hs.kp st.kp (fun b l hr q => q.elim (h.arn.ntag hr (by decide) (by decide) (by decide)) (fun q => row_ne hr h.port (by decide) q))
theorem Pt.kp' (h : Pt w ab p M A) (hk : Kp (fun _ => False) w w') : Pt w' ab p M A := ⟨h.arn.kp' hk, hk.row' h.port⟩

theorem pload_ok {at_ : Nat} (h : Pt w ab p M A) (ha : at_ < 4096) (hK : ∀ w', Pt w' ab p M { A with st := tick A.st 1 } → StP w w' ab p M M → K (U64 (A.ws at_)) w') : cl Tryd.prog 55 #[P p 0, U32 at_] K w := by
  apply c55
  unfold s55_p1
  try simp only [e_fd, e_nck, e_pkt, e_pkf, e_gdtt, e_gdtf, e_gdft, e_gdff, e_ift, e_iff, e_not, e_ln, e_lnT, e_cp, e_cvi, e_ex20, e_ex21, e_ex30, e_ex31, e_ex32, e_add, e_sub, e_mul, e_quo, e_rem, e_and, e_or, e_xor, e_shl, e_shr, e_eql, e_neq, e_lss, e_leq, e_gtr, e_geq, e_beq, e_bne, e_peq1, e_peq2, e_pne1, e_pne2, e_zeq1, e_zeq2, e_zne1, e_zne2, e_feq1, e_fne1, e_feq2, e_fne2, e_seq, e_sne, e_ta1, e_ta2, Nat.zero_add, Nat.add_zero, Bool.not_true, Bool.not_false]
  refine ld1_r h.port rfl ?_
  simp only [bne_self_eq_false, e_fd, e_nck, e_pkt, e_pkf, e_gdtt, e_gdtf, e_gdft, e_gdff, e_ift, e_iff, e_not, e_ln, e_lnT, e_cp, e_cvi, e_ex20, e_ex21, e_ex30, e_ex31, e_ex32, e_add, e_sub, e_mul, e_quo, e_rem, e_and, e_or, e_xor, e_shl, e_shr, e_eql, e_neq, e_lss, e_leq, e_gtr, e_geq, e_beq, e_bne, e_peq1, e_peq2, e_pne1, e_pne2, e_zeq1, e_zeq2, e_zne1, e_zne2, e_feq1, e_fne1, e_feq2, e_fne2, e_seq, e_sne, e_ta1, e_ta2, Nat.zero_add, Nat.add_zero, Bool.not_true, Bool.not_false]
  refine ld1_r h.port rfl ?_
  refine load_ok h.arn (by omega) fun w1 h1 hk1 => ?_
  simp only [if_pos ha, e_fd, e_nck, e_pkt, e_pkf, e_gdtt, e_gdtf, e_gdft, e_gdff, e_ift, e_iff, e_not, e_ln, e_lnT, e_cp, e_cvi, e_ex20, e_ex21, e_ex30, e_ex31, e_ex32, e_add, e_sub, e_mul, e_quo, e_rem, e_and, e_or, e_xor, e_shl, e_shr, e_eql, e_neq, e_lss, e_leq, e_gtr, e_geq, e_beq, e_bne, e_peq1, e_peq2, e_pne1, e_pne2, e_zeq1, e_zeq2, e_zne1, e_zne2, e_feq1, e_fne1, e_feq2, e_fne2, e_seq, e_sne, e_ta1, e_ta2, Nat.zero_add, Nat.add_zero, Bool.not_true, Bool.not_false]
  have p1 := hk1.row h.port (fun q => row_ne h.port h.arn.row (by decide) q)
  refine st1_r p1 (show 1 < 2 by decide) rfl fun w2 r2 hk2 hz2 => ?_
  refine hK w2 ⟨h1.frame hk2 (fun b hb (q : b = p) => h1.ntag p1 (by decide) (by decide) (by decide) (q ▸ hb)), r2⟩ (StP.of ((hk1.mono (T := fun b => OwnA ab M b ∨ b = p) fun _ _ q => .inl (.inl q)).trans (hk2.mono fun _ _ q => .inr q)) (fun b _ q => q))
theorem pstore_ok {at_ v : Nat} (h : Pt w ab p M A) (ha : at_ < 4096) (hv : v < 18446744073709551616) (hs : A.sd.length ≤ 1000000) (hK : ∀ w' M', Pt w' ab p M' (put A at_ v) → StP w w' ab p M M' → K (.tuple #[]) w') : cl Tryd.prog 56 #[P p 0, U32 at_, U64 v] K w := by
  apply c56
  unfold s56_p1
  try simp only [e_fd, e_nck, e_pkt, e_pkf, e_gdtt, e_gdtf, e_gdft, e_gdff, e_ift, e_iff, e_not, e_ln, e_lnT, e_cp, e_cvi, e_ex20, e_ex21, e_ex30, e_ex31, e_ex32, e_add, e_sub, e_mul, e_quo, e_rem, e_and, e_or, e_xor, e_shl, e_shr, e_eql, e_neq, e_lss, e_leq, e_gtr, e_geq, e_beq, e_bne, e_peq1, e_peq2, e_pne1, e_pne2, e_zeq1, e_zeq2, e_zne1, e_zne2, e_feq1, e_fne1, e_feq2, e_fne2, e_seq, e_sne, e_ta1, e_ta2, Nat.zero_add, Nat.add_zero, Bool.not_true, Bool.not_false]
  refine ld1_r h.port rfl ?_
  simp only [bne_self_eq_false, e_fd, e_nck, e_pkt, e_pkf, e_gdtt, e_gdtf, e_gdft, e_gdff, e_ift, e_iff, e_not, e_ln, e_lnT, e_cp, e_cvi, e_ex20, e_ex21, e_ex30, e_ex31, e_ex32, e_add, e_sub, e_mul, e_quo, e_rem, e_and, e_or, e_xor, e_shl, e_shr, e_eql, e_neq, e_lss, e_leq, e_gtr, e_geq, e_beq, e_bne, e_peq1, e_peq2, e_pne1, e_pne2, e_zeq1, e_zeq2, e_zne1, e_zne2, e_feq1, e_fne1, e_feq2, e_fne2, e_seq, e_sne, e_ta1, e_ta2, Nat.zero_add, Nat.add_zero, Bool.not_true, Bool.not_false]
  refine ld1_r h.port rfl ?_
  refine store_ok h.arn ha hv hs fun w1 M1 h1 st1 => ?_
  have p1 := st1.kp.row h.port (h.arn.ntag h.port (by decide) (by decide) (by decide))
  try simp only [e_fd, e_nck, e_pkt, e_pkf, e_gdtt, e_gdtf, e_gdft, e_gdff, e_ift, e_iff, e_not, e_ln, e_lnT, e_cp, e_cvi, e_ex20, e_ex21, e_ex30, e_ex31, e_ex32, e_add, e_sub, e_mul, e_quo, e_rem, e_and, e_or, e_xor, e_shl, e_shr, e_eql, e_neq, e_lss, e_leq, e_gtr, e_geq, e_beq, e_bne, e_peq1, e_peq2, e_pne1, e_pne2, e_zeq1, e_zeq2, e_zne1, e_zne2, e_feq1, e_fne1, e_feq2, e_fne2, e_seq, e_sne, e_ta1, e_ta2, Nat.zero_add, Nat.add_zero, Bool.not_true, Bool.not_false]
  refine st1_r p1 (show 1 < 2 by decide) rfl fun w2 r2 hk2 hz2 => ?_
  have sz := st1.kp.size
  refine hK w2 M1 ⟨h1.frame hk2 (fun b hb (q : b = p) => h1.ntag p1 (by decide) (by decide) (by decide) (q ▸ hb)), r2⟩ ⟨(st1.kp.mono (T := fun b => OwnA ab M b ∨ b = p) fun _ _ q => .inl q).trans (hk2.mono fun _ _ q => .inr q), st1.wb, st1.own⟩
theorem por_ok {c : Int} (h : Pt w ab p M A) (hK : K (I c) w) : cl Tryd.prog 54 #[P p 0, I c] K w := by
  apply c54
  unfold s54_p1
  try simp only [e_fd, e_nck, e_pkt, e_pkf, e_gdtt, e_gdtf, e_gdft, e_gdff, e_ift, e_iff, e_not, e_ln, e_lnT, e_cp, e_cvi, e_ex20, e_ex21, e_ex30, e_ex31, e_ex32, e_add, e_sub, e_mul, e_quo, e_rem, e_and, e_or, e_xor, e_shl, e_shr, e_eql, e_neq, e_lss, e_leq, e_gtr, e_geq, e_beq, e_bne, e_peq1, e_peq2, e_pne1, e_pne2, e_zeq1, e_zeq2, e_zne1, e_zne2, e_feq1, e_fne1, e_feq2, e_fne2, e_seq, e_sne, e_ta1, e_ta2, Nat.zero_add, Nat.add_zero, Bool.not_true, Bool.not_false]
  refine ld1_r h.port rfl ?_
  simp only [bne_self_eq_false, e_fd, e_nck, e_pkt, e_pkf, e_gdtt, e_gdtf, e_gdft, e_gdff, e_ift, e_iff, e_not, e_ln, e_lnT, e_cp, e_cvi, e_ex20, e_ex21, e_ex30, e_ex31, e_ex32, e_add, e_sub, e_mul, e_quo, e_rem, e_and, e_or, e_xor, e_shl, e_shr, e_eql, e_neq, e_lss, e_leq, e_gtr, e_geq, e_beq, e_bne, e_peq1, e_peq2, e_pne1, e_pne2, e_zeq1, e_zeq2, e_zne1, e_zne2, e_feq1, e_fne1, e_feq2, e_fne2, e_seq, e_sne, e_ta1, e_ta2, Nat.zero_add, Nat.add_zero, Bool.not_true, Bool.not_false]
  exact hK

/-- the seal -/
def sealI (s : Shp) : Int := IntKind.u64.wrap (BitVec.ofInt 64 (IntKind.u64.wrap (BitVec.ofInt 64 (IntKind.u64.wrap (BitVec.ofInt 64 11400714819323198485 ^^^ BitVec.ofInt 64 (IntKind.u64.wrap (IntKind.u64.wrap (s.ctl : Int) * 2 ^ (min ((32 : Int)).toNat 64)))).toNat) ^^^ BitVec.ofInt 64 (IntKind.u64.wrap (IntKind.u64.wrap (s.bw : Int) * 2 ^ (min ((17 : Int)).toNat 64)))).toNat) ^^^ BitVec.ofInt 64 (IntKind.u64.wrap (s.n : Int))).toNat
def sealN (s : Shp) : Nat := (sealI s).toNat
theorem seal_eq (s : Shp) : sealI s = ((sealN s : Nat) : Int) := by
  unfold sealN
  have : 0 ≤ sealI s := by unfold sealI; rw [wrapU64]; omega
  omega
theorem seal_lt (s : Shp) : sealN s < 18446744073709551616 := by
  have : sealI s < 18446744073709551616 := by unfold sealI; rw [wrapU64]; omega
  unfold sealN
  omega
theorem seal_ok (hs : ShAt w sb so s) (hK : ∀ w', Kp (fun _ => False) w w' → K (U64 (sealN s)) w') : cl Tryd.prog 62 #[P sb so] K w := by
  apply c62
  unfold s62_p3 s62_p2 s62_p2_d
  try simp only [e_fd, e_nck, e_pkt, e_pkf, e_gdtt, e_gdtf, e_gdft, e_gdff, e_ift, e_iff, e_not, e_ln, e_lnT, e_cp, e_cvi, e_ex20, e_ex21, e_ex30, e_ex31, e_ex32, e_add, e_sub, e_mul, e_quo, e_rem, e_and, e_or, e_xor, e_shl, e_shr, e_eql, e_neq, e_lss, e_leq, e_gtr, e_geq, e_beq, e_bne, e_peq1, e_peq2, e_pne1, e_pne2, e_zeq1, e_zeq2, e_zne1, e_zne2, e_feq1, e_fne1, e_feq2, e_fne2, e_seq, e_sne, e_ta1, e_ta2, Nat.zero_add, Nat.add_zero, Bool.not_true, Bool.not_false]
  have hd := hs.kp' (w' := drw w) kp_drw
  refine hd.ld (k := 0) (by decide) rfl rfl ?_
  try simp only [e_fd, e_nck, e_pkt, e_pkf, e_gdtt, e_gdtf, e_gdft, e_gdff, e_ift, e_iff, e_not, e_ln, e_lnT, e_cp, e_cvi, e_ex20, e_ex21, e_ex30, e_ex31, e_ex32, e_add, e_sub, e_mul, e_quo, e_rem, e_and, e_or, e_xor, e_shl, e_shr, e_eql, e_neq, e_lss, e_leq, e_gtr, e_geq, e_beq, e_bne, e_peq1, e_peq2, e_pne1, e_pne2, e_zeq1, e_zeq2, e_zne1, e_zne2, e_feq1, e_fne1, e_feq2, e_fne2, e_seq, e_sne, e_ta1, e_ta2, Nat.zero_add, Nat.add_zero, Bool.not_true, Bool.not_false]
  refine ⟨by decide, ?_⟩
  refine hd.ld (k := 4) (by decide) rfl rfl ?_
  try simp only [e_fd, e_nck, e_pkt, e_pkf, e_gdtt, e_gdtf, e_gdft, e_gdff, e_ift, e_iff, e_not, e_ln, e_lnT, e_cp, e_cvi, e_ex20, e_ex21, e_ex30, e_ex31, e_ex32, e_add, e_sub, e_mul, e_quo, e_rem, e_and, e_or, e_xor, e_shl, e_shr, e_eql, e_neq, e_lss, e_leq, e_gtr, e_geq, e_beq, e_bne, e_peq1, e_peq2, e_pne1, e_pne2, e_zeq1, e_zeq2, e_zne1, e_zne2, e_feq1, e_fne1, e_feq2, e_fne2, e_seq, e_sne, e_ta1, e_ta2, Nat.zero_add, Nat.add_zero, Bool.not_true, Bool.not_false]
  refine ⟨by decide, ?_⟩
  refine hd.ld (k := 5) (by decide) rfl rfl ?_
  try simp only [e_fd, e_nck, e_pkt, e_pkf, e_gdtt, e_gdtf, e_gdft, e_gdff, e_ift, e_iff, e_not, e_ln, e_lnT, e_cp, e_cvi, e_ex20, e_ex21, e_ex30, e_ex31, e_ex32, e_add, e_sub, e_mul, e_quo, e_rem, e_and, e_or, e_xor, e_shl, e_shr, e_eql, e_neq, e_lss, e_leq, e_gtr, e_geq, e_beq, e_bne, e_peq1, e_peq2, e_pne1, e_pne2, e_zeq1, e_zeq2, e_zne1, e_zne2, e_feq1, e_fne1, e_feq2, e_fne2, e_seq, e_sne, e_ta1, e_ta2, Nat.zero_add, Nat.add_zero, Bool.not_true, Bool.not_false]
  unfold s62_p1
  have := hK (drw w) kp_drw
  unfold U64 at this
  rw [← seal_eq] at this
  exact this
theorem sealed_ok (h : Pt w ab p M A) (hs : ShAt w sb so s) (hc : s.ctl < 4096) (hK : ∀ w', Pt w' ab p M { A with st := tick A.st 1 } → StP w w' ab p M M → K (.bool (A.ws s.ctl == sealN s)) w') : cl Tryd.prog 53 #[P p 0, P sb so] K w := by
  apply c53
  unfold s53_p1
  try simp only [e_fd, e_nck, e_pkt, e_pkf, e_gdtt, e_gdtf, e_gdft, e_gdff, e_ift, e_iff, e_not, e_ln, e_lnT, e_cp, e_cvi, e_ex20, e_ex21, e_ex30, e_ex31, e_ex32, e_add, e_sub, e_mul, e_quo, e_rem, e_and, e_or, e_xor, e_shl, e_shr, e_eql, e_neq, e_lss, e_leq, e_gtr, e_geq, e_beq, e_bne, e_peq1, e_peq2, e_pne1, e_pne2, e_zeq1, e_zeq2, e_zne1, e_zne2, e_feq1, e_fne1, e_feq2, e_fne2, e_seq, e_sne, e_ta1, e_ta2, Nat.zero_add, Nat.add_zero, Bool.not_true, Bool.not_false]
  refine hs.ld (k := 0) (by decide) rfl rfl ?_
  try simp only [e_fd, e_nck, e_pkt, e_pkf, e_gdtt, e_gdtf, e_gdft, e_gdff, e_ift, e_iff, e_not, e_ln, e_lnT, e_cp, e_cvi, e_ex20, e_ex21, e_ex30, e_ex31, e_ex32, e_add, e_sub, e_mul, e_quo, e_rem, e_and, e_or, e_xor, e_shl, e_shr, e_eql, e_neq, e_lss, e_leq, e_gtr, e_geq, e_beq, e_bne, e_peq1, e_peq2, e_pne1, e_pne2, e_zeq1, e_zeq2, e_zne1, e_zne2, e_feq1, e_fne1, e_feq2, e_fne2, e_seq, e_sne, e_ta1, e_ta2, Nat.zero_add, Nat.add_zero, Bool.not_true, Bool.not_false]
  rw [show ((s.ctl : Int) + 0) = ((s.ctl : Nat) : Int) by omega, w32 (by omega)]
  refine pload_ok h hc fun w1 h1 st1 => ?_
  refine seal_ok (h.sh st1 hs) fun w2 hk2 => ?_
  have h2 := h1.kp' hk2
  try simp only [e_fd, e_nck, e_pkt, e_pkf, e_gdtt, e_gdtf, e_gdft, e_gdff, e_ift, e_iff, e_not, e_ln, e_lnT, e_cp, e_cvi, e_ex20, e_ex21, e_ex30, e_ex31, e_ex32, e_add, e_sub, e_mul, e_quo, e_rem, e_and, e_or, e_xor, e_shl, e_shr, e_eql, e_neq, e_lss, e_leq, e_gtr, e_geq, e_beq, e_bne, e_peq1, e_peq2, e_pne1, e_pne2, e_zeq1, e_zeq2, e_zne1, e_zne2, e_feq1, e_fne1, e_feq2, e_fne2, e_seq, e_sne, e_ta1, e_ta2, Nat.zero_add, Nat.add_zero, Bool.not_true, Bool.not_false]
  have st2 : StP w w2 ab p M M := st1.trans (StP.of hk2 (fun _ _ q => q.elim))
  by_cases e : A.ws s.ctl = sealN s
  · have e1 : (((A.ws s.ctl : Nat) : Int) == ((sealN s : Nat) : Int)) = true := by rw [beq_iff_eq]; omega
    have e2 : (A.ws s.ctl == sealN s) = true := by simpa using e
    rw [e2] at hK
    simp only [e1, e_fd, e_nck, e_pkt, e_pkf, e_gdtt, e_gdtf, e_gdft, e_gdff, e_ift, e_iff, e_not, e_ln, e_lnT, e_cp, e_cvi, e_ex20, e_ex21, e_ex30, e_ex31, e_ex32, e_add, e_sub, e_mul, e_quo, e_rem, e_and, e_or, e_xor, e_shl, e_shr, e_eql, e_neq, e_lss, e_leq, e_gtr, e_geq, e_beq, e_bne, e_peq1, e_peq2, e_pne1, e_pne2, e_zeq1, e_zeq2, e_zne1, e_zne2, e_feq1, e_fne1, e_feq2, e_fne2, e_seq, e_sne, e_ta1, e_ta2, Nat.zero_add, Nat.add_zero, Bool.not_true, Bool.not_false]
    refine ld1_r h2.port rfl ?_
    simp only [beq_self_eq_true, e_fd, e_nck, e_pkt, e_pkf, e_gdtt, e_gdtf, e_gdft, e_gdff, e_ift, e_iff, e_not, e_ln, e_lnT, e_cp, e_cvi, e_ex20, e_ex21, e_ex30, e_ex31, e_ex32, e_add, e_sub, e_mul, e_quo, e_rem, e_and, e_or, e_xor, e_shl, e_shr, e_eql, e_neq, e_lss, e_leq, e_gtr, e_geq, e_beq, e_bne, e_peq1, e_peq2, e_pne1, e_pne2, e_zeq1, e_zeq2, e_zne1, e_zne2, e_feq1, e_fne1, e_feq2, e_fne2, e_seq, e_sne, e_ta1, e_ta2, Nat.zero_add, Nat.add_zero, Bool.not_true, Bool.not_false]
    exact hK w2 h2 st2
  · have e1 : (((A.ws s.ctl : Nat) : Int) == ((sealN s : Nat) : Int)) = false := by rw [beq_eq_false_iff_ne]; omega
    have e2 : (A.ws s.ctl == sealN s) = false := by simpa using e
    rw [e2] at hK
    simp only [e1, e_fd, e_nck, e_pkt, e_pkf, e_gdtt, e_gdtf, e_gdft, e_gdff, e_ift, e_iff, e_not, e_ln, e_lnT, e_cp, e_cvi, e_ex20, e_ex21, e_ex30, e_ex31, e_ex32, e_add, e_sub, e_mul, e_quo, e_rem, e_and, e_or, e_xor, e_shl, e_shr, e_eql, e_neq, e_lss, e_leq, e_gtr, e_geq, e_beq, e_bne, e_peq1, e_peq2, e_pne1, e_pne2, e_zeq1, e_zeq2, e_zne1, e_zne2, e_feq1, e_fne1, e_feq2, e_fne2, e_seq, e_sne, e_ta1, e_ta2, Nat.zero_add, Nat.add_zero, Bool.not_true, Bool.not_false]
    exact hK w2 h2 st2

def Shp.bk (s : Shp) (i : Nat) : Nat := s.fst + i * s.bw
theorem blockAt_ok {i : Nat} (hs : ShAt w sb so s) (hb : s.bk i < 4294967296) (hK : ∀ w', Kp (fun _ => False) w w' → K (U32 (s.bk i)) w') : cl Tryd.prog 57 #[P sb so, U32 i] K w := by
  apply c57
  unfold s57_p3 s57_p2 s57_p2_d
  try simp only [e_fd, e_nck, e_pkt, e_pkf, e_gdtt, e_gdtf, e_gdft, e_gdff, e_ift, e_iff, e_not, e_ln, e_lnT, e_cp, e_cvi, e_ex20, e_ex21, e_ex30, e_ex31, e_ex32, e_add, e_sub, e_mul, e_quo, e_rem, e_and, e_or, e_xor, e_shl, e_shr, e_eql, e_neq, e_lss, e_leq, e_gtr, e_geq, e_beq, e_bne, e_peq1, e_peq2, e_pne1, e_pne2, e_zeq1, e_zeq2, e_zne1, e_zne2, e_feq1, e_fne1, e_feq2, e_fne2, e_seq, e_sne, e_ta1, e_ta2, Nat.zero_add, Nat.add_zero, Bool.not_true, Bool.not_false]
  have hd := hs.kp' (w' := drw w) kp_drw
  refine hd.ld (k := 2) (by decide) rfl rfl ?_
  refine hd.ld (k := 4) (by decide) rfl rfl ?_
  try simp only [e_fd, e_nck, e_pkt, e_pkf, e_gdtt, e_gdtf, e_gdft, e_gdff, e_ift, e_iff, e_not, e_ln, e_lnT, e_cp, e_cvi, e_ex20, e_ex21, e_ex30, e_ex31, e_ex32, e_add, e_sub, e_mul, e_quo, e_rem, e_and, e_or, e_xor, e_shl, e_shr, e_eql, e_neq, e_lss, e_leq, e_gtr, e_geq, e_beq, e_bne, e_peq1, e_peq2, e_pne1, e_pne2, e_zeq1, e_zeq2, e_zne1, e_zne2, e_feq1, e_fne1, e_feq2, e_fne2, e_seq, e_sne, e_ta1, e_ta2, Nat.zero_add, Nat.add_zero, Bool.not_true, Bool.not_false]
  unfold s57_p1
  have e1 : ((i : Int) * (s.bw : Int)) = ((i * s.bw : Nat) : Int) := by simp
  unfold Shp.bk at hb
  rw [e1, w32 (by omega), show ((s.fst : Int) + ((i * s.bw : Nat) : Int)) = ((s.fst + i * s.bw : Nat) : Int) by omega, w32 hb]
  exact hK _ kp_drw
def Shp.mc (s : Shp) (i : Nat) : Nat := s.bm + i / 64
def bitN (i : Nat) : Nat := 2 ^ (i % 64)
theorem bitN_lt (i : Nat) : bitN i < 18446744073709551616 := by
  have h : i % 64 < 64 := Nat.mod_lt _ (by decide)
  have : 2 ^ (i % 64) < 2 ^ 64 := Nat.pow_lt_pow_right (by decide) h
  exact this
theorem mapCell_ok {i : Nat} (hs : ShAt w sb so s) (hi : i < 4294967296) (hb : s.mc i < 4294967296) (hK : K (.tuple #[U32 (s.mc i), U64 (bitN i)]) w) : cl Tryd.prog 58 #[P sb so, U32 i] K w := by
  apply c58
  unfold s58_p1
  try simp only [e_fd, e_nck, e_pkt, e_pkf, e_gdtt, e_gdtf, e_gdft, e_gdff, e_ift, e_iff, e_not, e_ln, e_lnT, e_cp, e_cvi, e_ex20, e_ex21, e_ex30, e_ex31, e_ex32, e_add, e_sub, e_mul, e_quo, e_rem, e_and, e_or, e_xor, e_shl, e_shr, e_eql, e_neq, e_lss, e_leq, e_gtr, e_geq, e_beq, e_bne, e_peq1, e_peq2, e_pne1, e_pne2, e_zeq1, e_zeq2, e_zne1, e_zne2, e_feq1, e_fne1, e_feq2, e_fne2, e_seq, e_sne, e_ta1, e_ta2, Nat.zero_add, Nat.add_zero, Bool.not_true, Bool.not_false]
  refine hs.ld (k := 1) (by decide) rfl rfl ?_
  try simp only [e_fd, e_nck, e_pkt, e_pkf, e_gdtt, e_gdtf, e_gdft, e_gdff, e_ift, e_iff, e_not, e_ln, e_lnT, e_cp, e_cvi, e_ex20, e_ex21, e_ex30, e_ex31, e_ex32, e_add, e_sub, e_mul, e_quo, e_rem, e_and, e_or, e_xor, e_shl, e_shr, e_eql, e_neq, e_lss, e_leq, e_gtr, e_geq, e_beq, e_bne, e_peq1, e_peq2, e_pne1, e_pne2, e_zeq1, e_zeq2, e_zne1, e_zne2, e_feq1, e_fne1, e_feq2, e_fne2, e_seq, e_sne, e_ta1, e_ta2, Nat.zero_add, Nat.add_zero, Bool.not_true, Bool.not_false]
  refine ⟨by decide, ?_⟩
  refine ⟨by decide, ?_⟩
  have e1 : ((i : Int)).tdiv 64 = ((i / 64 : Nat) : Int) := by rw [Int.tdiv_eq_ediv_of_nonneg (by omega)]; omega
  have e2 : ((i : Int)).tmod 64 = ((i % 64 : Nat) : Int) := by rw [Int.tmod_eq_emod_of_nonneg (by omega)]; omega
  have h64 : i % 64 < 64 := Nat.mod_lt _ (by decide)
  refine ⟨by rw [e2]; omega, ?_⟩
  unfold Shp.mc at hb
  have e3 : min (((i % 64 : Nat) : Int)).toNat IntKind.u64.bits = i % 64 := by
    have : IntKind.u64.bits = 64 := rfl
    rw [this]; omega
  have e4 : (1 : Int) * 2 ^ (i % 64) = ((bitN i : Nat) : Int) := by unfold bitN; simp
  rw [e1, e2, e3, e4, w64 (bitN_lt i), w32 (show i / 64 < 4294967296 by omega), show ((s.bm : Int) + ((i / 64 : Nat) : Int)) = ((s.bm + i / 64 : Nat) : Int) by omega, w32 hb]
  exact hK
def idxC (s : Shp) (a : Nat) : Int := if a < s.fst ∨ s.fin ≤ a then 8 else if (a - s.fst) % s.bw ≠ 0 then 9 else 0
def idxI (s : Shp) (a : Nat) : Nat := if idxC s a = 0 then (a - s.fst) / s.bw else 0
theorem indexOf_ok {a : Nat} (hs : ShAt w sb so s) (ha : a < 4294967296) (hf : s.fst < 4294967296) (hb : 1 ≤ s.bw) (hb2 : s.bw < 4294967296) (hK : K (.tuple #[U32 (idxI s a), I (idxC s a)]) w) : cl Tryd.prog 59 #[P sb so, U32 a] K w := by
  apply c59
  unfold s59_p1
  try simp only [e_fd, e_nck, e_pkt, e_pkf, e_gdtt, e_gdtf, e_gdft, e_gdff, e_ift, e_iff, e_not, e_ln, e_lnT, e_cp, e_cvi, e_ex20, e_ex21, e_ex30, e_ex31, e_ex32, e_add, e_sub, e_mul, e_quo, e_rem, e_and, e_or, e_xor, e_shl, e_shr, e_eql, e_neq, e_lss, e_leq, e_gtr, e_geq, e_beq, e_bne, e_peq1, e_peq2, e_pne1, e_pne2, e_zeq1, e_zeq2, e_zne1, e_zne2, e_feq1, e_fne1, e_feq2, e_fne2, e_seq, e_sne, e_ta1, e_ta2, Nat.zero_add, Nat.add_zero, Bool.not_true, Bool.not_false]
  refine hs.ld (k := 2) (by decide) rfl rfl ?_
  try simp only [e_fd, e_nck, e_pkt, e_pkf, e_gdtt, e_gdtf, e_gdft, e_gdff, e_ift, e_iff, e_not, e_ln, e_lnT, e_cp, e_cvi, e_ex20, e_ex21, e_ex30, e_ex31, e_ex32, e_add, e_sub, e_mul, e_quo, e_rem, e_and, e_or, e_xor, e_shl, e_shr, e_eql, e_neq, e_lss, e_leq, e_gtr, e_geq, e_beq, e_bne, e_peq1, e_peq2, e_pne1, e_pne2, e_zeq1, e_zeq2, e_zne1, e_zne2, e_feq1, e_fne1, e_feq2, e_fne2, e_seq, e_sne, e_ta1, e_ta2, Nat.zero_add, Nat.add_zero, Bool.not_true, Bool.not_false]
  unfold idxI at hK
  unfold idxC at hK
  by_cases h1 : (a : Int) < (s.fst : Int)
  · simp only [h1, decide_true, e_fd, e_nck, e_pkt, e_pkf, e_gdtt, e_gdtf, e_gdft, e_gdff, e_ift, e_iff, e_not, e_ln, e_lnT, e_cp, e_cvi, e_ex20, e_ex21, e_ex30, e_ex31, e_ex32, e_add, e_sub, e_mul, e_quo, e_rem, e_and, e_or, e_xor, e_shl, e_shr, e_eql, e_neq, e_lss, e_leq, e_gtr, e_geq, e_beq, e_bne, e_peq1, e_peq2, e_pne1, e_pne2, e_zeq1, e_zeq2, e_zne1, e_zne2, e_feq1, e_fne1, e_feq2, e_fne2, e_seq, e_sne, e_ta1, e_ta2, Nat.zero_add, Nat.add_zero, Bool.not_true, Bool.not_false]
    rw [if_pos (show a < s.fst ∨ s.fin ≤ a by omega), if_neg (by decide)] at hK
    exact hK
  · simp only [h1, decide_false, e_fd, e_nck, e_pkt, e_pkf, e_gdtt, e_gdtf, e_gdft, e_gdff, e_ift, e_iff, e_not, e_ln, e_lnT, e_cp, e_cvi, e_ex20, e_ex21, e_ex30, e_ex31, e_ex32, e_add, e_sub, e_mul, e_quo, e_rem, e_and, e_or, e_xor, e_shl, e_shr, e_eql, e_neq, e_lss, e_leq, e_gtr, e_geq, e_beq, e_bne, e_peq1, e_peq2, e_pne1, e_pne2, e_zeq1, e_zeq2, e_zne1, e_zne2, e_feq1, e_fne1, e_feq2, e_fne2, e_seq, e_sne, e_ta1, e_ta2, Nat.zero_add, Nat.add_zero, Bool.not_true, Bool.not_false]
    refine hs.ld (k := 3) (by decide) rfl rfl ?_
    try simp only [e_fd, e_nck, e_pkt, e_pkf, e_gdtt, e_gdtf, e_gdft, e_gdff, e_ift, e_iff, e_not, e_ln, e_lnT, e_cp, e_cvi, e_ex20, e_ex21, e_ex30, e_ex31, e_ex32, e_add, e_sub, e_mul, e_quo, e_rem, e_and, e_or, e_xor, e_shl, e_shr, e_eql, e_neq, e_lss, e_leq, e_gtr, e_geq, e_beq, e_bne, e_peq1, e_peq2, e_pne1, e_pne2, e_zeq1, e_zeq2, e_zne1, e_zne2, e_feq1, e_fne1, e_feq2, e_fne2, e_seq, e_sne, e_ta1, e_ta2, Nat.zero_add, Nat.add_zero, Bool.not_true, Bool.not_false]
    by_cases h2 : (s.fin : Int) ≤ (a : Int)
    · simp only [h2, decide_true, e_fd, e_nck, e_pkt, e_pkf, e_gdtt, e_gdtf, e_gdft, e_gdff, e_ift, e_iff, e_not, e_ln, e_lnT, e_cp, e_cvi, e_ex20, e_ex21, e_ex30, e_ex31, e_ex32, e_add, e_sub, e_mul, e_quo, e_rem, e_and, e_or, e_xor, e_shl, e_shr, e_eql, e_neq, e_lss, e_leq, e_gtr, e_geq, e_beq, e_bne, e_peq1, e_peq2, e_pne1, e_pne2, e_zeq1, e_zeq2, e_zne1, e_zne2, e_feq1, e_fne1, e_feq2, e_fne2, e_seq, e_sne, e_ta1, e_ta2, Nat.zero_add, Nat.add_zero, Bool.not_true, Bool.not_false]
      rw [if_pos (show a < s.fst ∨ s.fin ≤ a by omega), if_neg (by decide)] at hK
      exact hK
    · simp only [h2, decide_false, e_fd, e_nck, e_pkt, e_pkf, e_gdtt, e_gdtf, e_gdft, e_gdff, e_ift, e_iff, e_not, e_ln, e_lnT, e_cp, e_cvi, e_ex20, e_ex21, e_ex30, e_ex31, e_ex32, e_add, e_sub, e_mul, e_quo, e_rem, e_and, e_or, e_xor, e_shl, e_shr, e_eql, e_neq, e_lss, e_leq, e_gtr, e_geq, e_beq, e_bne, e_peq1, e_peq2, e_pne1, e_pne2, e_zeq1, e_zeq2, e_zne1, e_zne2, e_feq1, e_fne1, e_feq2, e_fne2, e_seq, e_sne, e_ta1, e_ta2, Nat.zero_add, Nat.add_zero, Bool.not_true, Bool.not_false]
      rw [if_neg (show ¬ (a < s.fst ∨ s.fin ≤ a) by omega)] at hK
      refine hs.ld (k := 2) (by decide) rfl rfl ?_
      try simp only [e_fd, e_nck, e_pkt, e_pkf, e_gdtt, e_gdtf, e_gdft, e_gdff, e_ift, e_iff, e_not, e_ln, e_lnT, e_cp, e_cvi, e_ex20, e_ex21, e_ex30, e_ex31, e_ex32, e_add, e_sub, e_mul, e_quo, e_rem, e_and, e_or, e_xor, e_shl, e_shr, e_eql, e_neq, e_lss, e_leq, e_gtr, e_geq, e_beq, e_bne, e_peq1, e_peq2, e_pne1, e_pne2, e_zeq1, e_zeq2, e_zne1, e_zne2, e_feq1, e_fne1, e_feq2, e_fne2, e_seq, e_sne, e_ta1, e_ta2, Nat.zero_add, Nat.add_zero, Bool.not_true, Bool.not_false]
      refine hs.ld (k := 4) (by decide) rfl rfl ?_
      try simp only [e_fd, e_nck, e_pkt, e_pkf, e_gdtt, e_gdtf, e_gdft, e_gdff, e_ift, e_iff, e_not, e_ln, e_lnT, e_cp, e_cvi, e_ex20, e_ex21, e_ex30, e_ex31, e_ex32, e_add, e_sub, e_mul, e_quo, e_rem, e_and, e_or, e_xor, e_shl, e_shr, e_eql, e_neq, e_lss, e_leq, e_gtr, e_geq, e_beq, e_bne, e_peq1, e_peq2, e_pne1, e_pne2, e_zeq1, e_zeq2, e_zne1, e_zne2, e_feq1, e_fne1, e_feq2, e_fne2, e_seq, e_sne, e_ta1, e_ta2, Nat.zero_add, Nat.add_zero, Bool.not_true, Bool.not_false]
      have e0 : ((a : Int) - (s.fst : Int)) = ((a - s.fst : Nat) : Int) := by omega
      rw [e0, w32 (by omega)]
      refine ⟨by omega, ?_⟩
      have e2 : (((a - s.fst : Nat) : Int)).tmod (s.bw : Int) = (((a - s.fst) % s.bw : Nat) : Int) := by rw [Int.tmod_eq_emod_of_nonneg (by omega)]; omega
      rw [e2]
      by_cases h3 : (a - s.fst) % s.bw = 0
      · have e3 : ((((a - s.fst) % s.bw : Nat) : Int) != 0) = false := by rw [h3]; rfl
        simp only [e3, e_fd, e_nck, e_pkt, e_pkf, e_gdtt, e_gdtf, e_gdft, e_gdff, e_ift, e_iff, e_not, e_ln, e_lnT, e_cp, e_cvi, e_ex20, e_ex21, e_ex30, e_ex31, e_ex32, e_add, e_sub, e_mul, e_quo, e_rem, e_and, e_or, e_xor, e_shl, e_shr, e_eql, e_neq, e_lss, e_leq, e_gtr, e_geq, e_beq, e_bne, e_peq1, e_peq2, e_pne1, e_pne2, e_zeq1, e_zeq2, e_zne1, e_zne2, e_feq1, e_fne1, e_feq2, e_fne2, e_seq, e_sne, e_ta1, e_ta2, Nat.zero_add, Nat.add_zero, Bool.not_true, Bool.not_false]
        rw [if_neg (show ¬ (a - s.fst) % s.bw ≠ 0 by omega), if_pos rfl] at hK
        refine hs.ld (k := 4) (by decide) rfl rfl ?_
        try simp only [e_fd, e_nck, e_pkt, e_pkf, e_gdtt, e_gdtf, e_gdft, e_gdff, e_ift, e_iff, e_not, e_ln, e_lnT, e_cp, e_cvi, e_ex20, e_ex21, e_ex30, e_ex31, e_ex32, e_add, e_sub, e_mul, e_quo, e_rem, e_and, e_or, e_xor, e_shl, e_shr, e_eql, e_neq, e_lss, e_leq, e_gtr, e_geq, e_beq, e_bne, e_peq1, e_peq2, e_pne1, e_pne2, e_zeq1, e_zeq2, e_zne1, e_zne2, e_feq1, e_fne1, e_feq2, e_fne2, e_seq, e_sne, e_ta1, e_ta2, Nat.zero_add, Nat.add_zero, Bool.not_true, Bool.not_false]
        refine ⟨by omega, ?_⟩
        have e4 : (((a - s.fst : Nat) : Int)).tdiv (s.bw : Int) = (((a - s.fst) / s.bw : Nat) : Int) := by rw [Int.tdiv_eq_ediv_of_nonneg (by omega)]; omega
        rw [e4, w32 (by have := Nat.div_le_self (a - s.fst) s.bw; omega)]
        exact hK
      · have e3 : ((((a - s.fst) % s.bw : Nat) : Int) != 0) = true := by simp; omega
        simp only [e3, e_fd, e_nck, e_pkt, e_pkf, e_gdtt, e_gdtf, e_gdft, e_gdff, e_ift, e_iff, e_not, e_ln, e_lnT, e_cp, e_cvi, e_ex20, e_ex21, e_ex30, e_ex31, e_ex32, e_add, e_sub, e_mul, e_quo, e_rem, e_and, e_or, e_xor, e_shl, e_shr, e_eql, e_neq, e_lss, e_leq, e_gtr, e_geq, e_beq, e_bne, e_peq1, e_peq2, e_pne1, e_pne2, e_zeq1, e_zeq2, e_zne1, e_zne2, e_feq1, e_fne1, e_feq2, e_fne2, e_seq, e_sne, e_ta1, e_ta2, Nat.zero_add, Nat.add_zero, Bool.not_true, Bool.not_false]
        rw [if_pos (show (a - s.fst) % s.bw ≠ 0 by omega), if_neg (by decide)] at hK
        exact hK
end
end Go.Proofs.Qxb6500893aDoor
