import Derived.Test.Qxb6500893aDoorA11
namespace Go.Proofs.Qxb6500893aDoor
open Go.Sh Go.RowKit
set_option linter.unusedVariables false
set_option linter.unusedSimpArgs false

structure Mid where
  code : Int
  id : Int
  at_ : Nat
  q : Q4
  s : Ws
def q0 : Q4 := (0, 0, 0, 0)
def m64 (n : Int) : Nat := (n % 18446744073709551616).toNat
theorem m64_lt (n : Int) : m64 n < 18446744073709551616 := by unfold m64; omega
theorem wrapM64 (n : Int) : IntKind.u64.wrap n = ((m64 n : Nat) : Int) := by rw [wrapU64]; unfold m64; omega
def ownI (T : Tb) (a : Nat) : Option Nat := T.ps.findIdx? (fun s => decide (s.fst ≤ a ∧ a < s.fin))
def mOpen (s : Ws) (c : Call) : Mid :=
  if openC (m32 c.a) (m32 c.b) = 0 then ⟨0, -1, 0, q0, ⟨s.A, openT (m32 c.a) (m32 c.b), []⟩⟩ else ⟨openC (m32 c.a) (m32 c.b), -1, 0, q0, s⟩
def mCreate (s : Ws) (c : Call) : Mid :=
  if crC s.T c.a c.b = 0 then ⟨0, (s.T.ps.length : Int), 0, q0, ⟨fmtF s.A (crSh s.T c.a.toNat c.b.toNat), crT s.T (crSh s.T c.a.toNat c.b.toNat), s.L⟩⟩ else ⟨crC s.T c.a c.b, -1, 0, q0, s⟩
def mAlloc (s : Ws) (c : Call) : Mid := match pl s.T c.pool with
  | some sh => ⟨(allocF s.A sh).2.1, -1, (allocF s.A sh).1, q0, { s with A := (allocF s.A sh).2.2 }⟩
  | none => ⟨6, -1, 0, q0, s⟩
def mFree (s : Ws) (c : Call) : Mid := match pl s.T c.pool with
  | some sh => ⟨(freeF s.A sh c.at_).1, -1, 0, q0, { s with A := (freeF s.A sh c.at_).2 }⟩
  | none => ⟨6, -1, 0, q0, s⟩
def mRel (k : Nat) (s : Ws) (c : Call) : Mid := match (ownI s.T c.at_).bind (fun i => s.T.ps[i]?) with
  | some sh => ⟨(freeF (tk s.A k) sh c.at_).1, -1, 0, q0, { s with A := (freeF (tk s.A k) sh c.at_).2 }⟩
  | none => ⟨8, -1, 0, q0, { s with A := tk s.A k }⟩
def mOwn (k : Nat) (s : Ws) (c : Call) : Mid := match ownI s.T c.at_ with
  | some i => ⟨0, (i : Int), 0, q0, { s with A := tk s.A k }⟩
  | none => ⟨8, -1, 0, q0, { s with A := tk s.A k }⟩
def mStats (s : Ws) (c : Call) : Mid := match pl s.T c.pool with
  | some sh => ⟨(stF s.A sh).2.1, -1, 0, (stF s.A sh).1, { s with A := (stF s.A sh).2.2 }⟩
  | none => ⟨6, -1, 0, q0, s⟩
def mPoke (s : Ws) (c : Call) : Mid := if 0 ≤ c.pick then (match s.L[c.pick.toNat]? with
    | some x => ⟨0, -1, 0, q0, ⟨put s.A (x.at_ + c.b.toNat) (m64 c.a), s.T, s.L.set c.pick.toNat { x with ws := x.ws.set c.b.toNat (m64 c.a) }⟩⟩
    | none => ⟨0, -1, 0, q0, s⟩) else ⟨0, -1, 0, q0, s⟩
def mScr (s : Ws) (c : Call) : Mid := if c.at_ < 4096 then ⟨0, -1, 0, q0, { s with A := put s.A c.at_ (m64 c.a) }⟩ else ⟨1, -1, 0, q0, { s with A := ld s.A }⟩
def midF (k : Nat) (s : Ws) (c : Call) : Mid :=
  if c.kind = 0 then mOpen s c else if c.kind = 1 then mCreate s c else if c.kind = 2 then mAlloc s c else if c.kind = 3 then mFree s c
  else if c.kind = 4 then mRel k s c else if c.kind = 5 then mOwn k s c else if c.kind = 6 then mStats s c else if c.kind = 7 then mPoke s c
  else if c.kind = 8 then mScr s c else ⟨12, -1, 0, q0, s⟩

structure Rc (W : World) (m0 : Wm) (L0 : List Lb) (t3 t4 t5 : Nat) (c : Call) (l5 : List Value) (w : World) (m : Wm) (s : Ws) : Prop where
  wd : Wd w m s
  st : StW W w m0 L0 m s.L
  r3 : Row w t3 33 (cac c)
  r4 : Row w t4 41 (outV 0 0 0 q0 0 nilS)
  r5 : Row w t5 41 l5
  n45 : t4 ≠ t5
  z3 : W.heap.size ≤ t3
  z4 : W.heap.size ≤ t4
  z5 : W.heap.size ≤ t5
  zs : ∀ b, m.M.sob = some b → W.heap.size ≤ b

section
variable {W w w' : World} {K : Value → World → Prop} {C : Nat → Prop} {s s' : Ws} {m m' m0 : Wm} {L L' L0 : List Lb} {A : Ar} {T : Tb} {b t3 t4 t5 : Nat} {c : Call} {l5 : List Value} {t6 : Value}
theorem Rc.row (R : Rc W m0 L0 t3 t4 t5 c l5 w m s) : Row w m0.wdb 50 [P m0.ab 0, P m.tb 0, m.md, m.lv] := by rw [← R.st.wdb, ← R.st.ab]; exact R.wd.row
theorem Rc.kp' (R : Rc W m0 L0 t3 t4 t5 c l5 w m s) (hk : Kp (fun _ => False) w w') : Rc W m0 L0 t3 t4 t5 c l5 w' m s :=
  ⟨R.wd.kp' hk, R.st.new0 hk, hk.row' R.r3, hk.row' R.r4, hk.row' R.r5, R.n45, R.z3, R.z4, R.z5, R.zs⟩
theorem Rc.out (R : Rc W m0 L0 t3 t4 t5 c l5 w m s) (hk : Kp (fun b => b = t5) w w') {l' : List Value} (hr : Row w' t5 41 l') : Rc W m0 L0 t3 t4 t5 c l' w' m s :=
  ⟨R.wd.tmp R.r5 hk (by decide), R.st.new hk (fun b e => by rw [e]; exact R.z5), hk.row R.r3 (fun (q : _ = _) => row_ne R.r3 R.r5 (by decide) q), hk.row R.r4 (fun (q : _ = _) => R.n45 q), hr, R.n45, R.z3, R.z4, R.z5, R.zs⟩
theorem Rc.set (R : Rc W m0 L0 t3 t4 t5 c l5 w m s) (hw : Wd w' m' s') (hs : StW W w' m0 L0 m' s'.L) (hk : Kp (OwnW m s.L) w w') (hz : ∀ b, m'.M.sob = some b → W.heap.size ≤ b) : Rc W m0 L0 t3 t4 t5 c l5 w' m' s' :=
  ⟨hw, hs, hk.row R.r3 (R.wd.ntag R.r3 (by decide)), hk.row R.r4 (R.wd.ntag R.r4 (by decide)), hk.row R.r5 (R.wd.ntag R.r5 (by decide)), R.n45, R.z3, R.z4, R.z5, hz⟩
theorem Rc.setA (R : Rc W m0 L0 t3 t4 t5 c l5 w m s) {M' : Am} {A' : Ar} (ha : Arn w' m0.ab M' A') (st : StA w w' m0.ab m.M M') : Rc W m0 L0 t3 t4 t5 c l5 w' { m with M := M' } { s with A := A' } := by
  rw [← R.st.ab] at ha st
  have zW := R.st.kp.size
  refine R.set (R.wd.setA ha st) (R.st.setA st) (st.kp.mono fun b _ q => .inr (.inl q)) (fun b hb => ?_)
  rcases st.own b hb with q | q
  · exact R.zs b q
  · omega
theorem Rc.arn (R : Rc W m0 L0 t3 t4 t5 c l5 w m s) : Arn w m0.ab m.M s.A := by rw [← R.st.ab]; exact R.wd.arn
theorem Rc.tbl (R : Rc W m0 L0 t3 t4 t5 c l5 w m s) : Tbl w m.tb m.pb m0.ab s.T := by rw [← R.st.ab]; exact R.wd.tbl
/-- the code goes into the answer -/
theorem Rc.code (R : Rc W m0 L0 t3 t4 t5 c l5 w m s) {k : World → Prop} {id id' x : Int} {at_ : Nat} {q : Q4} (e : l5 = outV id' id at_ q 0 nilS) (hk : ∀ w', Rc W m0 L0 t3 t4 t5 c (outV x id at_ q 0 nilS) w' m s → k w') : st1 (P t5 0) (I x) k w := by
  subst e
  exact st1_r R.r5 (show 0 < 9 by decide) rfl fun w1 r1 hk1 hz1 => hk w1 (R.out hk1 r1)
theorem Rc.id (R : Rc W m0 L0 t3 t4 t5 c l5 w m s) {k : World → Prop} {id x co : Int} {at_ : Nat} {q : Q4} (e : l5 = outV co id at_ q 0 nilS) (hk : ∀ w', Rc W m0 L0 t3 t4 t5 c (outV co x at_ q 0 nilS) w' m s → k w') : st1 (P t5 1) (I x) k w := by
  subst e
  exact st1_r R.r5 (show 1 < 9 by decide) rfl fun w1 r1 hk1 hz1 => hk w1 (R.out hk1 r1)
theorem Rc.at' (R : Rc W m0 L0 t3 t4 t5 c l5 w m s) {k : World → Prop} {id co : Int} {at_ x : Nat} {q : Q4} (e : l5 = outV co id at_ q 0 nilS) (hk : ∀ w', Rc W m0 L0 t3 t4 t5 c (outV co id x q 0 nilS) w' m s → k w') : st1 (P t5 2) (U32 x) k w := by
  subst e
  exact st1_r R.r5 (show 2 < 9 by decide) rfl fun w1 r1 hk1 hz1 => hk w1 (R.out hk1 r1)
theorem Rc.fig (R : Rc W m0 L0 t3 t4 t5 c l5 w m s) {k : World → Prop} {id co : Int} {at_ : Nat} {q x : Q4} (e : l5 = outV co id at_ q 0 nilS) (hk : ∀ w', Rc W m0 L0 t3 t4 t5 c (outV co id at_ x 0 nilS) w' m s → k w') : stn 4 (P t5 3) (.agg (stV x).toArray) k w := by
  subst e
  exact stn_r R.r5 rfl (show 3 + 4 ≤ 9 by decide) rfl fun w1 r1 hk1 hz1 => hk w1 (R.out hk1 r1)

/-! ### each kind -/
theorem real_open (R : Rc W m0 L0 t3 t4 t5 c (outV 0 (-1) 0 q0 0 nilS) w m s) (fin : ∀ w' m', Rc W m0 L0 t3 t4 t5 c (outV (mOpen s c).code (mOpen s c).id (mOpen s c).at_ (mOpen s c).q 0 nilS) w' m' (mOpen s c).s → s14_p9 K (P m0.wdb 0) (P t3 0) (P t4 0) (P t5 0) t6 w') :
    s14_p11 K (P m0.wdb 0) (P t3 0) (P t4 0) (P t5 0) t6 w := by
  unfold s14_p11 s14_p11_d
  have R := R.kp' (w' := drw w) kp_drw
  generalize drw w = w at R ⊢
  try simp only [e_fd, e_nck, e_pkt, e_pkf, e_gdtt, e_gdtf, e_gdft, e_gdff, e_ift, e_iff, e_not, e_ln, e_lnT, e_cp, e_cvi, e_ex20, e_ex21, e_ex30, e_ex31, e_ex32, e_add, e_sub, e_mul, e_quo, e_rem, e_and, e_or, e_xor, e_shl, e_shr, e_eql, e_neq, e_lss, e_leq, e_gtr, e_geq, e_beq, e_bne, e_peq1, e_peq2, e_pne1, e_pne2, e_zeq1, e_zeq2, e_zne1, e_zne2, e_feq1, e_fne1, e_feq2, e_fne2, e_seq, e_sne, e_ta1, e_ta2, Nat.zero_add, Nat.add_zero, Bool.not_true, Bool.not_false]
  refine ld1_r R.row rfl ?_
  refine ld1_r R.r3 rfl ?_
  try simp only [e_fd, e_nck, e_pkt, e_pkf, e_gdtt, e_gdtf, e_gdft, e_gdff, e_ift, e_iff, e_not, e_ln, e_lnT, e_cp, e_cvi, e_ex20, e_ex21, e_ex30, e_ex31, e_ex32, e_add, e_sub, e_mul, e_quo, e_rem, e_and, e_or, e_xor, e_shl, e_shr, e_eql, e_neq, e_lss, e_leq, e_gtr, e_geq, e_beq, e_bne, e_peq1, e_peq2, e_pne1, e_pne2, e_zeq1, e_zeq2, e_zne1, e_zne2, e_feq1, e_fne1, e_feq2, e_fne2, e_seq, e_sne, e_ta1, e_ta2, Nat.zero_add, Nat.add_zero, Bool.not_true, Bool.not_false]
  refine ld1_r R.r3 rfl ?_
  try simp only [e_fd, e_nck, e_pkt, e_pkf, e_gdtt, e_gdtf, e_gdft, e_gdff, e_ift, e_iff, e_not, e_ln, e_lnT, e_cp, e_cvi, e_ex20, e_ex21, e_ex30, e_ex31, e_ex32, e_add, e_sub, e_mul, e_quo, e_rem, e_and, e_or, e_xor, e_shl, e_shr, e_eql, e_neq, e_lss, e_leq, e_gtr, e_geq, e_beq, e_bne, e_peq1, e_peq2, e_pne1, e_pne2, e_zeq1, e_zeq2, e_zne1, e_zne2, e_feq1, e_fne1, e_feq2, e_fne2, e_seq, e_sne, e_ta1, e_ta2, Nat.zero_add, Nat.add_zero, Bool.not_true, Bool.not_false]
  rw [wrapM, wrapM]
  refine bdq_r (l := [U32 (m32 c.a), U32 (m32 c.b)]) rfl ?_
  refine new_ok R.arn (m32_lt _) (m32_lt _) (fun hn w1 hk1 => ?_) (fun h0 w1 tb pb htb hpb hk1 ht => ?_)
  · have e : mOpen s c = ⟨openC (m32 c.a) (m32 c.b), -1, 0, q0, s⟩ := by unfold mOpen; rw [if_neg hn]
    rw [e] at fin
    simp only [and_self, e_fd, e_nck, e_pkt, e_pkf, e_gdtt, e_gdtf, e_gdft, e_gdff, e_ift, e_iff, e_not, e_ln, e_lnT, e_cp, e_cvi, e_ex20, e_ex21, e_ex30, e_ex31, e_ex32, e_add, e_sub, e_mul, e_quo, e_rem, e_and, e_or, e_xor, e_shl, e_shr, e_eql, e_neq, e_lss, e_leq, e_gtr, e_geq, e_beq, e_bne, e_peq1, e_peq2, e_pne1, e_pne2, e_zeq1, e_zeq2, e_zne1, e_zne2, e_feq1, e_fne1, e_feq2, e_fne2, e_seq, e_sne, e_ta1, e_ta2, Nat.zero_add, Nat.add_zero, Bool.not_true, Bool.not_false]
    refine (R.kp' hk1).code rfl fun w2 R2 => ?_
    unfold s14_p10
    try simp only [e_fd, e_nck, e_pkt, e_pkf, e_gdtt, e_gdtf, e_gdft, e_gdff, e_ift, e_iff, e_not, e_ln, e_lnT, e_cp, e_cvi, e_ex20, e_ex21, e_ex30, e_ex31, e_ex32, e_add, e_sub, e_mul, e_quo, e_rem, e_and, e_or, e_xor, e_shl, e_shr, e_eql, e_neq, e_lss, e_leq, e_gtr, e_geq, e_beq, e_bne, e_peq1, e_peq2, e_pne1, e_pne2, e_zeq1, e_zeq2, e_zne1, e_zne2, e_feq1, e_fne1, e_feq2, e_fne2, e_seq, e_sne, e_ta1, e_ta2, Nat.zero_add, Nat.add_zero, Bool.not_true, Bool.not_false]
    refine ld1_r R2.r5 rfl ?_
    have e : (openC (m32 c.a) (m32 c.b) == 0) = false := by rw [beq_eq_false_iff_ne]; exact hn
    simp only [e, e_fd, e_nck, e_pkt, e_pkf, e_gdtt, e_gdtf, e_gdft, e_gdff, e_ift, e_iff, e_not, e_ln, e_lnT, e_cp, e_cvi, e_ex20, e_ex21, e_ex30, e_ex31, e_ex32, e_add, e_sub, e_mul, e_quo, e_rem, e_and, e_or, e_xor, e_shl, e_shr, e_eql, e_neq, e_lss, e_leq, e_gtr, e_geq, e_beq, e_bne, e_peq1, e_peq2, e_pne1, e_pne2, e_zeq1, e_zeq2, e_zne1, e_zne2, e_feq1, e_fne1, e_feq2, e_fne2, e_seq, e_sne, e_ta1, e_ta2, Nat.zero_add, Nat.add_zero, Bool.not_true, Bool.not_false]
    exact fin w2 m R2
  · have e : mOpen s c = ⟨0, -1, 0, q0, ⟨s.A, openT (m32 c.a) (m32 c.b), []⟩⟩ := by unfold mOpen; rw [if_pos h0]
    rw [e] at fin
    simp only [and_self, e_fd, e_nck, e_pkt, e_pkf, e_gdtt, e_gdtf, e_gdft, e_gdff, e_ift, e_iff, e_not, e_ln, e_lnT, e_cp, e_cvi, e_ex20, e_ex21, e_ex30, e_ex31, e_ex32, e_add, e_sub, e_mul, e_quo, e_rem, e_and, e_or, e_xor, e_shl, e_shr, e_eql, e_neq, e_lss, e_leq, e_gtr, e_geq, e_beq, e_bne, e_peq1, e_peq2, e_pne1, e_pne2, e_zeq1, e_zeq2, e_zne1, e_zne2, e_feq1, e_fne1, e_feq2, e_fne2, e_seq, e_sne, e_ta1, e_ta2, Nat.zero_add, Nat.add_zero, Bool.not_true, Bool.not_false]
    have R1 := R.kp' hk1
    have zW := R.st.kp.size
    obtain ⟨junk, hj, hp⟩ := ht.pools
    have ntb : ¬ OwnW m s.L tb := fun q => by have := R.wd.lt q; omega
    have npb : ¬ OwnW m s.L pb := fun q => by have := R.wd.lt q; omega
    refine st1_r R1.r5 (show 0 < 9 by decide) rfl fun w2 r2 hk2 hz2 => ?_
    have R2 := R1.out hk2 r2
    have ntb2 := hk2.row ht.row (fun (q : _ = _) => row_ne ht.row R1.r5 (by decide) q)
    have npb2 := hk2.row hp (fun (q : _ = _) => row_ne hp R1.r5 (by decide) q)
    unfold s14_p10
    try simp only [e_fd, e_nck, e_pkt, e_pkf, e_gdtt, e_gdtf, e_gdft, e_gdff, e_ift, e_iff, e_not, e_ln, e_lnT, e_cp, e_cvi, e_ex20, e_ex21, e_ex30, e_ex31, e_ex32, e_add, e_sub, e_mul, e_quo, e_rem, e_and, e_or, e_xor, e_shl, e_shr, e_eql, e_neq, e_lss, e_leq, e_gtr, e_geq, e_beq, e_bne, e_peq1, e_peq2, e_pne1, e_pne2, e_zeq1, e_zeq2, e_zne1, e_zne2, e_feq1, e_fne1, e_feq2, e_fne2, e_seq, e_sne, e_ta1, e_ta2, Nat.zero_add, Nat.add_zero, Bool.not_true, Bool.not_false]
    refine ld1_r R2.r5 rfl ?_
    simp only [beq_self_eq_true, e_fd, e_nck, e_pkt, e_pkf, e_gdtt, e_gdtf, e_gdft, e_gdff, e_ift, e_iff, e_not, e_ln, e_lnT, e_cp, e_cvi, e_ex20, e_ex21, e_ex30, e_ex31, e_ex32, e_add, e_sub, e_mul, e_quo, e_rem, e_and, e_or, e_xor, e_shl, e_shr, e_eql, e_neq, e_lss, e_leq, e_gtr, e_geq, e_beq, e_bne, e_peq1, e_peq2, e_pne1, e_pne2, e_zeq1, e_zeq2, e_zne1, e_zne2, e_feq1, e_fne1, e_feq2, e_fne2, e_seq, e_sne, e_ta1, e_ta2, Nat.zero_add, Nat.add_zero, Bool.not_true, Bool.not_false]
    refine st1_r R2.row (show 1 < 4 by decide) rfl fun w3 r3 hk3 hz3 => ?_
    try simp only [e_fd, e_nck, e_pkt, e_pkf, e_gdtt, e_gdtf, e_gdft, e_gdff, e_ift, e_iff, e_not, e_ln, e_lnT, e_cp, e_cvi, e_ex20, e_ex21, e_ex30, e_ex31, e_ex32, e_add, e_sub, e_mul, e_quo, e_rem, e_and, e_or, e_xor, e_shl, e_shr, e_eql, e_neq, e_lss, e_leq, e_gtr, e_geq, e_beq, e_bne, e_peq1, e_peq2, e_pne1, e_pne2, e_zeq1, e_zeq2, e_zne1, e_zne2, e_feq1, e_fne1, e_feq2, e_fne2, e_seq, e_sne, e_ta1, e_ta2, Nat.zero_add, Nat.add_zero, Bool.not_true, Bool.not_false]
    refine st1_r r3 (show 3 < 4 by decide) rfl fun w4 r4 hk4 hz4 => ?_
    have r4' : Row w4 m0.wdb 50 [P m0.ab 0, P tb 0, m.md, nilS] := r4
    have hk24 : Kp (fun b => b = m0.wdb) w2 w4 := hk3.trans hk4
    have n4 : ∀ {t b l}, Row w2 b t l → t ≠ 50 → Row w4 b t l := fun hr ht' => hk24.row hr (fun (q : _ = _) => row_ne hr R2.row ht' q)
    have wd4 : Wd w4 { m with tb := tb, pb := pb, lob := none, lv := nilS } ⟨s.A, openT (m32 c.a) (m32 c.b), []⟩ := by
      refine ⟨?_, R2.wd.arn.frame hk24 (fun b hb (q : b = _) => ?_), ⟨?_, junk, hj, n4 npb2 (by decide)⟩, openT_ok h0, ⟨⟨rfl, rfl⟩, fun x hx => (by cases hx), List.nodup_nil, fun x hx => (by cases hx)⟩, fun x hx => (by cases hx)⟩
      · show Row w4 m.wdb 50 _; rw [R.st.wdb, R.st.ab]; exact r4'
      · subst q; exact R2.wd.arn.ntag R2.row (by decide) (by decide) (by decide) hb
      · show Row w4 tb 106 [P m.ab 0, _, _, _, _, _]; rw [R.st.ab]; exact n4 ntb2 (by decide)
    have own4 : ∀ b, OwnW { m with tb := tb, pb := pb, lob := none, lv := nilS } [] b → OwnW m s.L b ∨ W.heap.size ≤ b := by
      rintro b (q | q | q | q | q | ⟨x, hx, q⟩)
      · exact .inl (.inl q)
      · exact .inl (.inr (.inl q))
      · exact .inr (by have : b = tb := q; omega)
      · exact .inr (by have : b = pb := q; omega)
      · cases q
      · cases hx
    refine fin w4 _ (R2.set wd4 (R2.st.step hk24 (fun b q => .inl (.inl ?_)) own4 rfl rfl rfl) (hk24.mono fun b _ q => .inl ?_) R.zs)
    · rw [q, R.st.wdb]
    · rw [q, R.st.wdb]

theorem Wd.setAT (h : Wd w m s) {M' : Am} {A' : Ar} {T' : Tb} (ha : Arn w' m.ab M' A') (hk : Kp (fun b => OwnA m.ab m.M b ∨ b = m.tb ∨ b = m.pb) w w') (hwb : M'.wb = m.M.wb) (ht : Tbl w' m.tb m.pb m.ab T') (ok : T'.Ok) : Wd w' { m with M := M' } ⟨A', T', s.L⟩ := by
  obtain ⟨junk, hj, hp⟩ := h.tbl.pools
  have nt : ∀ {t b l}, Row w b t l → t ≠ 114 → t ≠ 71 → t ≠ 31 → t ≠ 106 → t ≠ 112 → ¬ (OwnA m.ab m.M b ∨ b = m.tb ∨ b = m.pb) := fun hr h1 h2 h3 h4 h5 q => by
    rcases q with q | q | q
    · exact h.arn.ntag hr h1 h2 h3 q
    · exact row_ne hr h.tbl.row h4 q
    · exact row_ne hr hp h5 q
  refine ⟨hk.row h.row (nt h.row (by decide) (by decide) (by decide) (by decide) (by decide)), ha, ht, ok, h.live.kp hk (fun b hb => ?_) (fun x hx q => ?_), fun x hx => ?_⟩
  · obtain ⟨l, hr⟩ := h.live.sl.row hb; exact nt hr (by decide) (by decide) (by decide) (by decide) (by decide)
  · rcases q with (q | q | q) | q | q
    · exact row_ne (h.live.rw x hx) h.arn.row (by decide) q
    · exact h.nwb x hx q
    · obtain ⟨l, hr⟩ := h.arn.sd.row q; exact row_ne (h.live.rw x hx) hr (by decide) rfl
    · exact row_ne (h.live.rw x hx) h.tbl.row (by decide) q
    · exact row_ne (h.live.rw x hx) hp (by decide) q
  · show x.b ≠ M'.wb; rw [hwb]; exact h.nwb x hx

theorem real_create (R : Rc W m0 L0 t3 t4 t5 c (outV 0 (-1) 0 q0 0 nilS) w m s) (hsd : s.A.sd = []) (fin : ∀ w' m', Rc W m0 L0 t3 t4 t5 c (outV (mCreate s c).code (mCreate s c).id (mCreate s c).at_ (mCreate s c).q 0 nilS) w' m' (mCreate s c).s → s14_p9 K (P m0.wdb 0) (P t3 0) (P t4 0) (P t5 0) t6 w') :
    s14_p13 K (P m0.wdb 0) (P t3 0) (P t4 0) (P t5 0) t6 w := by
  unfold s14_p13 s14_p13_d
  have R := R.kp' (w' := drw w) kp_drw
  generalize drw w = w at R ⊢
  try simp only [e_fd, e_nck, e_pkt, e_pkf, e_gdtt, e_gdtf, e_gdft, e_gdff, e_ift, e_iff, e_not, e_ln, e_lnT, e_cp, e_cvi, e_ex20, e_ex21, e_ex30, e_ex31, e_ex32, e_add, e_sub, e_mul, e_quo, e_rem, e_and, e_or, e_xor, e_shl, e_shr, e_eql, e_neq, e_lss, e_leq, e_gtr, e_geq, e_beq, e_bne, e_peq1, e_peq2, e_pne1, e_pne2, e_zeq1, e_zeq2, e_zne1, e_zne2, e_feq1, e_fne1, e_feq2, e_fne2, e_seq, e_sne, e_ta1, e_ta2, Nat.zero_add, Nat.add_zero, Bool.not_true, Bool.not_false]
  refine ld1_r R.row rfl ?_
  refine ld1_r R.r3 rfl ?_
  refine ld1_r R.r3 rfl ?_
  refine create_ok R.arn R.tbl R.wd.ok (by rw [hsd]; decide) (fun hn w1 hk1 => ?_) (fun h0 _ _ _ _ ok' w1 M1 a1 hk1 ho1 hwb ht1 => ?_)
  · have e : mCreate s c = ⟨crC s.T c.a c.b, -1, 0, q0, s⟩ := by unfold mCreate; rw [if_neg hn]
    rw [e] at fin
    simp only [and_self, e_fd, e_nck, e_pkt, e_pkf, e_gdtt, e_gdtf, e_gdft, e_gdff, e_ift, e_iff, e_not, e_ln, e_lnT, e_cp, e_cvi, e_ex20, e_ex21, e_ex30, e_ex31, e_ex32, e_add, e_sub, e_mul, e_quo, e_rem, e_and, e_or, e_xor, e_shl, e_shr, e_eql, e_neq, e_lss, e_leq, e_gtr, e_geq, e_beq, e_bne, e_peq1, e_peq2, e_pne1, e_pne2, e_zeq1, e_zeq2, e_zne1, e_zne2, e_feq1, e_fne1, e_feq2, e_fne2, e_seq, e_sne, e_ta1, e_ta2, Nat.zero_add, Nat.add_zero, Bool.not_true, Bool.not_false]
    refine (R.kp' hk1).id rfl fun w2 R2 => ?_
    refine R2.code rfl fun w3 R3 => ?_
    exact fin w3 m R3
  · have e : mCreate s c = ⟨0, (s.T.ps.length : Int), 0, q0, ⟨fmtF s.A (crSh s.T c.a.toNat c.b.toNat), crT s.T (crSh s.T c.a.toNat c.b.toNat), s.L⟩⟩ := by unfold mCreate; rw [if_pos h0]
    rw [e] at fin
    simp only [and_self, e_fd, e_nck, e_pkt, e_pkf, e_gdtt, e_gdtf, e_gdft, e_gdff, e_ift, e_iff, e_not, e_ln, e_lnT, e_cp, e_cvi, e_ex20, e_ex21, e_ex30, e_ex31, e_ex32, e_add, e_sub, e_mul, e_quo, e_rem, e_and, e_or, e_xor, e_shl, e_shr, e_eql, e_neq, e_lss, e_leq, e_gtr, e_geq, e_beq, e_bne, e_peq1, e_peq2, e_pne1, e_pne2, e_zeq1, e_zeq2, e_zne1, e_zne2, e_feq1, e_fne1, e_feq2, e_fne2, e_seq, e_sne, e_ta1, e_ta2, Nat.zero_add, Nat.add_zero, Bool.not_true, Bool.not_false]
    have zW := R.st.kp.size
    rw [← R.st.ab] at a1 hk1 ht1
    have wd1 := R.wd.setAT a1 hk1 hwb ht1 ok'
    have hko : Kp (OwnW m s.L) w w1 := hk1.mono fun b _ q => by
      rcases q with q | q | q
      · exact .inr (.inl q)
      · exact .inr (.inr (.inl q))
      · exact .inr (.inr (.inr (.inl q)))
    have own1 : ∀ b, OwnW { m with M := M1 } s.L b → OwnW m s.L b ∨ W.heap.size ≤ b := by
      rintro b (q | q | q)
      · exact .inl (.inl q)
      · rcases q with q | q | q
        · exact .inl (.inr (.inl (.inl q)))
        · exact .inl (.inr (.inl (.inr (.inl (by rw [← hwb]; exact q)))))
        · rcases ho1 b q with q | q
          · exact .inl (.inr (.inl (.inr (.inr q))))
          · exact .inr (by omega)
      · exact .inl (.inr (.inr q))
    have R1 := R.set wd1 (R.st.step hko (fun b q => .inl q) own1 rfl rfl rfl) hko (fun b hb => by
      rcases ho1 b hb with q | q
      · exact R.zs b q
      · omega)
    refine R1.id rfl fun w2 R2 => ?_
    refine R2.code rfl fun w3 R3 => ?_
    exact fin w3 _ R3

theorem real_alloc (R : Rc W m0 L0 t3 t4 t5 c (outV 0 (-1) 0 q0 0 nilS) w m s) (hsd : s.A.sd = []) (fin : ∀ w' m', Rc W m0 L0 t3 t4 t5 c (outV (mAlloc s c).code (mAlloc s c).id (mAlloc s c).at_ (mAlloc s c).q 0 nilS) w' m' (mAlloc s c).s → s14_p9 K (P m0.wdb 0) (P t3 0) (P t4 0) (P t5 0) t6 w') :
    s14_p14 K (P m0.wdb 0) (P t3 0) (P t4 0) (P t5 0) t6 w := by
  unfold s14_p14 s14_p14_d
  have R := R.kp' (w' := drw w) kp_drw
  generalize drw w = w at R ⊢
  try simp only [e_fd, e_nck, e_pkt, e_pkf, e_gdtt, e_gdtf, e_gdft, e_gdff, e_ift, e_iff, e_not, e_ln, e_lnT, e_cp, e_cvi, e_ex20, e_ex21, e_ex30, e_ex31, e_ex32, e_add, e_sub, e_mul, e_quo, e_rem, e_and, e_or, e_xor, e_shl, e_shr, e_eql, e_neq, e_lss, e_leq, e_gtr, e_geq, e_beq, e_bne, e_peq1, e_peq2, e_pne1, e_pne2, e_zeq1, e_zeq2, e_zne1, e_zne2, e_feq1, e_fne1, e_feq2, e_fne2, e_seq, e_sne, e_ta1, e_ta2, Nat.zero_add, Nat.add_zero, Bool.not_true, Bool.not_false]
  refine ld1_r R.row rfl ?_
  refine ld1_r R.r3 rfl ?_
  refine alloc_ok R.arn R.tbl R.wd.ok (by rw [hsd]; decide) (fun hn => ?_) (fun i hi hid w1 M1 a1 st1 => ?_)
  · have e : mAlloc s c = ⟨6, -1, 0, q0, s⟩ := by unfold mAlloc; rw [pl_none hn]
    rw [e] at fin
    simp only [and_self, e_fd, e_nck, e_pkt, e_pkf, e_gdtt, e_gdtf, e_gdft, e_gdff, e_ift, e_iff, e_not, e_ln, e_lnT, e_cp, e_cvi, e_ex20, e_ex21, e_ex30, e_ex31, e_ex32, e_add, e_sub, e_mul, e_quo, e_rem, e_and, e_or, e_xor, e_shl, e_shr, e_eql, e_neq, e_lss, e_leq, e_gtr, e_geq, e_beq, e_bne, e_peq1, e_peq2, e_pne1, e_pne2, e_zeq1, e_zeq2, e_zne1, e_zne2, e_feq1, e_fne1, e_feq2, e_fne2, e_seq, e_sne, e_ta1, e_ta2, Nat.zero_add, Nat.add_zero, Bool.not_true, Bool.not_false]
    refine R.at' rfl fun w2 R2 => ?_
    refine R2.code rfl fun w3 R3 => ?_
    exact fin w3 m R3
  · have e : mAlloc s c = ⟨(allocF s.A s.T.ps[i]).2.1, -1, (allocF s.A s.T.ps[i]).1, q0, { s with A := (allocF s.A s.T.ps[i]).2.2 }⟩ := by unfold mAlloc; rw [hid, pl_some hi]
    rw [e] at fin
    simp only [and_self, e_fd, e_nck, e_pkt, e_pkf, e_gdtt, e_gdtf, e_gdft, e_gdff, e_ift, e_iff, e_not, e_ln, e_lnT, e_cp, e_cvi, e_ex20, e_ex21, e_ex30, e_ex31, e_ex32, e_add, e_sub, e_mul, e_quo, e_rem, e_and, e_or, e_xor, e_shl, e_shr, e_eql, e_neq, e_lss, e_leq, e_gtr, e_geq, e_beq, e_bne, e_peq1, e_peq2, e_pne1, e_pne2, e_zeq1, e_zeq2, e_zne1, e_zne2, e_feq1, e_fne1, e_feq2, e_fne2, e_seq, e_sne, e_ta1, e_ta2, Nat.zero_add, Nat.add_zero, Bool.not_true, Bool.not_false]
    refine (R.setA a1 st1).at' rfl fun w2 R2 => ?_
    refine R2.code rfl fun w3 R3 => ?_
    exact fin w3 _ R3

theorem real_free (R : Rc W m0 L0 t3 t4 t5 c (outV 0 (-1) 0 q0 0 nilS) w m s) (hsd : s.A.sd = []) (hat : c.at_ < 4294967296) (fin : ∀ w' m', Rc W m0 L0 t3 t4 t5 c (outV (mFree s c).code (mFree s c).id (mFree s c).at_ (mFree s c).q 0 nilS) w' m' (mFree s c).s → s14_p9 K (P m0.wdb 0) (P t3 0) (P t4 0) (P t5 0) t6 w') :
    s14_p15 K (P m0.wdb 0) (P t3 0) (P t4 0) (P t5 0) t6 w := by
  unfold s14_p15 s14_p15_d
  have R := R.kp' (w' := drw w) kp_drw
  generalize drw w = w at R ⊢
  try simp only [e_fd, e_nck, e_pkt, e_pkf, e_gdtt, e_gdtf, e_gdft, e_gdff, e_ift, e_iff, e_not, e_ln, e_lnT, e_cp, e_cvi, e_ex20, e_ex21, e_ex30, e_ex31, e_ex32, e_add, e_sub, e_mul, e_quo, e_rem, e_and, e_or, e_xor, e_shl, e_shr, e_eql, e_neq, e_lss, e_leq, e_gtr, e_geq, e_beq, e_bne, e_peq1, e_peq2, e_pne1, e_pne2, e_zeq1, e_zeq2, e_zne1, e_zne2, e_feq1, e_fne1, e_feq2, e_fne2, e_seq, e_sne, e_ta1, e_ta2, Nat.zero_add, Nat.add_zero, Bool.not_true, Bool.not_false]
  refine ld1_r R.row rfl ?_
  refine ld1_r R.r3 rfl ?_
  refine ld1_r R.r3 rfl ?_
  refine free_ok R.arn R.tbl R.wd.ok (by rw [hsd]; decide) hat (fun hn => ?_) (fun i hi hid w1 M1 a1 st1 => ?_)
  · have e : mFree s c = ⟨6, -1, 0, q0, s⟩ := by unfold mFree; rw [pl_none hn]
    rw [e] at fin
    refine R.code rfl fun w3 R3 => ?_
    exact fin w3 m R3
  · have e : mFree s c = ⟨(freeF s.A s.T.ps[i] c.at_).1, -1, 0, q0, { s with A := (freeF s.A s.T.ps[i] c.at_).2 }⟩ := by unfold mFree; rw [hid, pl_some hi]
    rw [e] at fin
    refine (R.setA a1 st1).code rfl fun w3 R3 => ?_
    exact fin w3 _ R3

theorem ownI_some {i a : Nat} (ok : T.Ok) (hi : i < T.ps.length) (h : inP T.ps[i] a) : ownI T a = some i := by
  unfold ownI
  rw [List.findIdx?_eq_some_iff_getElem]
  refine ⟨hi, decide_eq_true h, fun j hj => ?_⟩
  have h1 := (List.pairwise_iff_getElem.1 ok.srt) j i (by omega) hi hj
  have h2 := (ok.sh _ (List.getElem_mem hi)).1
  have h3 := h2.bm
  have h4 := h2.fst
  have h5 := h.1
  simp only [decide_eq_true_eq]
  omega
theorem ownI_none {a : Nat} (h : ∀ s ∈ T.ps, ¬ inP s a) : ownI T a = none := by
  unfold ownI
  rw [List.findIdx?_eq_none_iff]
  intro x hx
  exact decide_eq_false (h x hx)

theorem real_rel (R : Rc W m0 L0 t3 t4 t5 c (outV 0 (-1) 0 q0 0 nilS) w m s) (hsd : s.A.sd = []) (hat : c.at_ < 4294967296) (fin : ∀ k, k ≤ 4 → ∀ w' m', Rc W m0 L0 t3 t4 t5 c (outV (mRel k s c).code (mRel k s c).id (mRel k s c).at_ (mRel k s c).q 0 nilS) w' m' (mRel k s c).s → s14_p9 K (P m0.wdb 0) (P t3 0) (P t4 0) (P t5 0) t6 w') :
    s14_p16 K (P m0.wdb 0) (P t3 0) (P t4 0) (P t5 0) t6 w := by
  unfold s14_p16 s14_p16_d
  have R := R.kp' (w' := drw w) kp_drw
  generalize drw w = w at R ⊢
  try simp only [e_fd, e_nck, e_pkt, e_pkf, e_gdtt, e_gdtf, e_gdft, e_gdff, e_ift, e_iff, e_not, e_ln, e_lnT, e_cp, e_cvi, e_ex20, e_ex21, e_ex30, e_ex31, e_ex32, e_add, e_sub, e_mul, e_quo, e_rem, e_and, e_or, e_xor, e_shl, e_shr, e_eql, e_neq, e_lss, e_leq, e_gtr, e_geq, e_beq, e_bne, e_peq1, e_peq2, e_pne1, e_pne2, e_zeq1, e_zeq2, e_zne1, e_zne2, e_feq1, e_fne1, e_feq2, e_fne2, e_seq, e_sne, e_ta1, e_ta2, Nat.zero_add, Nat.add_zero, Bool.not_true, Bool.not_false]
  refine ld1_r R.row rfl ?_
  refine ld1_r R.r3 rfl ?_
  refine release_ok R.arn R.tbl R.wd.ok (by rw [hsd]; decide) hat (fun w1 k hk hn a1 st1 => ?_) (fun w1 M1 k i hi hk hin a1 st1 => ?_)
  · have fin := fin k hk
    have e : mRel k s c = ⟨8, -1, 0, q0, { s with A := tk s.A k }⟩ := by unfold mRel; rw [ownI_none hn]; rfl
    rw [e] at fin
    refine (R.setA a1 st1).code rfl fun w3 R3 => ?_
    exact fin w3 _ R3
  · have fin := fin k hk
    have e : mRel k s c = ⟨(freeF (tk s.A k) s.T.ps[i] c.at_).1, -1, 0, q0, { s with A := (freeF (tk s.A k) s.T.ps[i] c.at_).2 }⟩ := by
      unfold mRel; rw [ownI_some R.wd.ok hi hin]; simp only [Option.bind_some, List.getElem?_eq_getElem hi]
    rw [e] at fin
    refine (R.setA a1 st1).code rfl fun w3 R3 => ?_
    exact fin w3 _ R3

theorem real_own (R : Rc W m0 L0 t3 t4 t5 c (outV 0 (-1) 0 q0 0 nilS) w m s) (hat : c.at_ < 4294967296) (fin : ∀ k, k ≤ 4 → ∀ w' m', Rc W m0 L0 t3 t4 t5 c (outV (mOwn k s c).code (mOwn k s c).id (mOwn k s c).at_ (mOwn k s c).q 0 nilS) w' m' (mOwn k s c).s → s14_p9 K (P m0.wdb 0) (P t3 0) (P t4 0) (P t5 0) t6 w') :
    s14_p17 K (P m0.wdb 0) (P t3 0) (P t4 0) (P t5 0) t6 w := by
  unfold s14_p17 s14_p17_d
  have R := R.kp' (w' := drw w) kp_drw
  generalize drw w = w at R ⊢
  try simp only [e_fd, e_nck, e_pkt, e_pkf, e_gdtt, e_gdtf, e_gdft, e_gdff, e_ift, e_iff, e_not, e_ln, e_lnT, e_cp, e_cvi, e_ex20, e_ex21, e_ex30, e_ex31, e_ex32, e_add, e_sub, e_mul, e_quo, e_rem, e_and, e_or, e_xor, e_shl, e_shr, e_eql, e_neq, e_lss, e_leq, e_gtr, e_geq, e_beq, e_bne, e_peq1, e_peq2, e_pne1, e_pne2, e_zeq1, e_zeq2, e_zne1, e_zne2, e_feq1, e_fne1, e_feq2, e_fne2, e_seq, e_sne, e_ta1, e_ta2, Nat.zero_add, Nat.add_zero, Bool.not_true, Bool.not_false]
  refine ld1_r R.row rfl ?_
  refine ld1_r R.r3 rfl ?_
  refine owner_ok R.arn R.tbl R.wd.ok hat (fun w1 k hk hn a1 st1 => ?_) (fun w1 k i hi hk hin a1 st1 => ?_)
  · have fin := fin k hk
    have e : mOwn k s c = ⟨8, -1, 0, q0, { s with A := tk s.A k }⟩ := by unfold mOwn; rw [ownI_none hn]
    rw [e] at fin
    simp only [and_self, e_fd, e_nck, e_pkt, e_pkf, e_gdtt, e_gdtf, e_gdft, e_gdff, e_ift, e_iff, e_not, e_ln, e_lnT, e_cp, e_cvi, e_ex20, e_ex21, e_ex30, e_ex31, e_ex32, e_add, e_sub, e_mul, e_quo, e_rem, e_and, e_or, e_xor, e_shl, e_shr, e_eql, e_neq, e_lss, e_leq, e_gtr, e_geq, e_beq, e_bne, e_peq1, e_peq2, e_pne1, e_pne2, e_zeq1, e_zeq2, e_zne1, e_zne2, e_feq1, e_fne1, e_feq2, e_fne2, e_seq, e_sne, e_ta1, e_ta2, Nat.zero_add, Nat.add_zero, Bool.not_true, Bool.not_false]
    refine (R.setA a1 st1).id rfl fun w2 R2 => ?_
    refine R2.code rfl fun w3 R3 => ?_
    exact fin w3 _ R3
  · have fin := fin k hk
    have e : mOwn k s c = ⟨0, (i : Int), 0, q0, { s with A := tk s.A k }⟩ := by unfold mOwn; rw [ownI_some R.wd.ok hi hin]
    rw [e] at fin
    simp only [and_self, e_fd, e_nck, e_pkt, e_pkf, e_gdtt, e_gdtf, e_gdft, e_gdff, e_ift, e_iff, e_not, e_ln, e_lnT, e_cp, e_cvi, e_ex20, e_ex21, e_ex30, e_ex31, e_ex32, e_add, e_sub, e_mul, e_quo, e_rem, e_and, e_or, e_xor, e_shl, e_shr, e_eql, e_neq, e_lss, e_leq, e_gtr, e_geq, e_beq, e_bne, e_peq1, e_peq2, e_pne1, e_pne2, e_zeq1, e_zeq2, e_zne1, e_zne2, e_feq1, e_fne1, e_feq2, e_fne2, e_seq, e_sne, e_ta1, e_ta2, Nat.zero_add, Nat.add_zero, Bool.not_true, Bool.not_false]
    refine (R.setA a1 st1).id rfl fun w2 R2 => ?_
    refine R2.code rfl fun w3 R3 => ?_
    exact fin w3 _ R3

theorem real_stats (R : Rc W m0 L0 t3 t4 t5 c (outV 0 (-1) 0 q0 0 nilS) w m s) (fin : ∀ w' m', Rc W m0 L0 t3 t4 t5 c (outV (mStats s c).code (mStats s c).id (mStats s c).at_ (mStats s c).q 0 nilS) w' m' (mStats s c).s → s14_p9 K (P m0.wdb 0) (P t3 0) (P t4 0) (P t5 0) t6 w') :
    s14_p18 K (P m0.wdb 0) (P t3 0) (P t4 0) (P t5 0) t6 w := by
  unfold s14_p18 s14_p18_d
  have R := R.kp' (w' := drw w) kp_drw
  generalize drw w = w at R ⊢
  try simp only [e_fd, e_nck, e_pkt, e_pkf, e_gdtt, e_gdtf, e_gdft, e_gdff, e_ift, e_iff, e_not, e_ln, e_lnT, e_cp, e_cvi, e_ex20, e_ex21, e_ex30, e_ex31, e_ex32, e_add, e_sub, e_mul, e_quo, e_rem, e_and, e_or, e_xor, e_shl, e_shr, e_eql, e_neq, e_lss, e_leq, e_gtr, e_geq, e_beq, e_bne, e_peq1, e_peq2, e_pne1, e_pne2, e_zeq1, e_zeq2, e_zne1, e_zne2, e_feq1, e_fne1, e_feq2, e_fne2, e_seq, e_sne, e_ta1, e_ta2, Nat.zero_add, Nat.add_zero, Bool.not_true, Bool.not_false]
  refine ld1_r R.row rfl ?_
  refine ld1_r R.r3 rfl ?_
  refine stats_ok R.arn R.tbl R.wd.ok (fun hn w1 hk1 => ?_) (fun i hi hid w1 a1 st1 => ?_)
  · have e : mStats s c = ⟨6, -1, 0, q0, s⟩ := by unfold mStats; rw [pl_none hn]
    rw [e] at fin
    simp only [and_self, e_fd, e_nck, e_pkt, e_pkf, e_gdtt, e_gdtf, e_gdft, e_gdff, e_ift, e_iff, e_not, e_ln, e_lnT, e_cp, e_cvi, e_ex20, e_ex21, e_ex30, e_ex31, e_ex32, e_add, e_sub, e_mul, e_quo, e_rem, e_and, e_or, e_xor, e_shl, e_shr, e_eql, e_neq, e_lss, e_leq, e_gtr, e_geq, e_beq, e_bne, e_peq1, e_peq2, e_pne1, e_pne2, e_zeq1, e_zeq2, e_zne1, e_zne2, e_feq1, e_fne1, e_feq2, e_fne2, e_seq, e_sne, e_ta1, e_ta2, Nat.zero_add, Nat.add_zero, Bool.not_true, Bool.not_false]
    refine (R.kp' hk1).fig (x := q0) rfl fun w2 R2 => ?_
    refine R2.code rfl fun w3 R3 => ?_
    exact fin w3 m R3
  · have e : mStats s c = ⟨(stF s.A s.T.ps[i]).2.1, -1, 0, (stF s.A s.T.ps[i]).1, { s with A := (stF s.A s.T.ps[i]).2.2 }⟩ := by unfold mStats; rw [hid, pl_some hi]
    rw [e] at fin
    simp only [and_self, e_fd, e_nck, e_pkt, e_pkf, e_gdtt, e_gdtf, e_gdft, e_gdff, e_ift, e_iff, e_not, e_ln, e_lnT, e_cp, e_cvi, e_ex20, e_ex21, e_ex30, e_ex31, e_ex32, e_add, e_sub, e_mul, e_quo, e_rem, e_and, e_or, e_xor, e_shl, e_shr, e_eql, e_neq, e_lss, e_leq, e_gtr, e_geq, e_beq, e_bne, e_peq1, e_peq2, e_pne1, e_pne2, e_zeq1, e_zeq2, e_zne1, e_zne2, e_feq1, e_fne1, e_feq2, e_fne2, e_seq, e_sne, e_ta1, e_ta2, Nat.zero_add, Nat.add_zero, Bool.not_true, Bool.not_false]
    refine (R.setA a1 st1).fig rfl fun w2 R2 => ?_
    refine R2.code rfl fun w3 R3 => ?_
    exact fin w3 _ R3

theorem real_scr (R : Rc W m0 L0 t3 t4 t5 c (outV 0 (-1) 0 q0 0 nilS) w m s) (hsd : s.A.sd = []) (hat : c.at_ < 4294967296) (fin : ∀ w' m', Rc W m0 L0 t3 t4 t5 c (outV (mScr s c).code (mScr s c).id (mScr s c).at_ (mScr s c).q 0 nilS) w' m' (mScr s c).s → s14_p9 K (P m0.wdb 0) (P t3 0) (P t4 0) (P t5 0) t6 w') :
    s14_p24 K (P m0.wdb 0) (P t3 0) (P t4 0) (P t5 0) t6 w := by
  unfold s14_p24 s14_p24_d
  have R := R.kp' (w' := drw w) kp_drw
  generalize drw w = w at R ⊢
  try simp only [e_fd, e_nck, e_pkt, e_pkf, e_gdtt, e_gdtf, e_gdft, e_gdff, e_ift, e_iff, e_not, e_ln, e_lnT, e_cp, e_cvi, e_ex20, e_ex21, e_ex30, e_ex31, e_ex32, e_add, e_sub, e_mul, e_quo, e_rem, e_and, e_or, e_xor, e_shl, e_shr, e_eql, e_neq, e_lss, e_leq, e_gtr, e_geq, e_beq, e_bne, e_peq1, e_peq2, e_pne1, e_pne2, e_zeq1, e_zeq2, e_zne1, e_zne2, e_feq1, e_fne1, e_feq2, e_fne2, e_seq, e_sne, e_ta1, e_ta2, Nat.zero_add, Nat.add_zero, Bool.not_true, Bool.not_false]
  refine ld1_r R.row rfl ?_
  refine ld1_r R.r3 rfl ?_
  refine ld1_r R.r3 rfl ?_
  try simp only [e_fd, e_nck, e_pkt, e_pkf, e_gdtt, e_gdtf, e_gdft, e_gdff, e_ift, e_iff, e_not, e_ln, e_lnT, e_cp, e_cvi, e_ex20, e_ex21, e_ex30, e_ex31, e_ex32, e_add, e_sub, e_mul, e_quo, e_rem, e_and, e_or, e_xor, e_shl, e_shr, e_eql, e_neq, e_lss, e_leq, e_gtr, e_geq, e_beq, e_bne, e_peq1, e_peq2, e_pne1, e_pne2, e_zeq1, e_zeq2, e_zne1, e_zne2, e_feq1, e_fne1, e_feq2, e_fne2, e_seq, e_sne, e_ta1, e_ta2, Nat.zero_add, Nat.add_zero, Bool.not_true, Bool.not_false]
  rw [wrapM64]
  by_cases hl : c.at_ < 4096
  · have e : mScr s c = ⟨0, -1, 0, q0, { s with A := put s.A c.at_ (m64 c.a) }⟩ := by unfold mScr; rw [if_pos hl]
    rw [e] at fin
    refine store_ok R.arn hl (m64_lt _) (by rw [hsd]; decide) fun w1 M1 a1 st1 => ?_
    refine (R.setA a1 st1).code rfl fun w3 R3 => ?_
    exact fin w3 _ R3
  · have e : mScr s c = ⟨1, -1, 0, q0, { s with A := ld s.A }⟩ := by unfold mScr; rw [if_neg hl]
    rw [e] at fin
    refine store_out R.arn (by omega) hat fun w1 a1 hk1 => ?_
    refine (R.setA a1 (stA_ab hk1)).code rfl fun w3 R3 => ?_
    exact fin w3 _ R3
end
end Go.Proofs.Qxb6500893aDoor
