import Derived.Test.Qxb6500893aDoorA7
namespace Go.Proofs.Qxb6500893aDoor
open Go.Sh Go.RowKit
set_option linter.unusedVariables false
set_option linter.unusedSimpArgs false

/-- a block in use as the player remembers it; b: where its words lie -/
structure Lb where
  pool : Int
  at_ : Nat
  b : Nat
  ws : List Nat
def lbV (x : Lb) : List Value := [I x.pool, U32 x.at_, .slice (some ⟨x.b, 0, none⟩) x.ws.length x.ws.length]
theorem lbV_len (x : Lb) : (lbV x).length = 3 := rfl
structure Lv (w : World) (lob : Option Nat) (lv : Value) (L : List Lb) : Prop where
  sl : Sl lbV 3 w 66 lob lv L
  rw : ∀ x ∈ L, Row w x.b 71 (x.ws.map U64)
  nd : (L.map (·.b)).Nodup
  rng : ∀ x ∈ L, (∀ v ∈ x.ws, v < 18446744073709551616) ∧ 1 ≤ x.ws.length ∧ x.ws.length ≤ 4096 ∧ x.at_ < 4294967296
/-- where the player's world lies -/
structure Wm where
  wdb : Nat
  ab : Nat
  M : Am
  tb : Nat
  pb : Nat
  lob : Option Nat
  lv : Value
  md : Value
structure Ws where
  A : Ar
  T : Tb
  L : List Lb
structure Wd (w : World) (m : Wm) (s : Ws) : Prop where
  row : Row w m.wdb 50 [P m.ab 0, P m.tb 0, m.md, m.lv]
  arn : Arn w m.ab m.M s.A
  tbl : Tbl w m.tb m.pb m.ab s.T
  ok : s.T.Ok
  live : Lv w m.lob m.lv s.L
  nwb : ∀ x ∈ s.L, x.b ≠ m.M.wb

section
variable {w w' : World} {ab tb pb p sb so : Nat} {M M' : Am} {A : Ar} {K : Value → World → Prop} {C : Nat → Prop} {s : Ws} {m : Wm} {lob : Option Nat} {lv : Value} {L : List Lb} {T : Tb}
theorem Lv.kp (h : Lv w lob lv L) (hk : Kp C w w') (h1 : ∀ b, lob = some b → ¬ C b) (h2 : ∀ x ∈ L, ¬ C x.b) : Lv w' lob lv L :=
  ⟨h.sl.kp hk h1, fun x hx => hk.row (h.rw x hx) (h2 x hx), h.nd, h.rng⟩
theorem Lv.kp' (h : Lv w lob lv L) (hk : Kp (fun _ => False) w w') : Lv w' lob lv L := h.kp hk (fun _ _ q => q) (fun _ _ q => q)
theorem Wd.kp' (h : Wd w m s) (hk : Kp (fun _ => False) w w') : Wd w' m s := ⟨hk.row' h.row, h.arn.kp' hk, h.tbl.kp' hk, h.ok, h.live.kp' hk, h.nwb⟩
/-- the arena alone changes -/
theorem Wd.setA (h : Wd w m s) {M' : Am} {A' : Ar} (ha : Arn w' m.ab M' A') (st : StA w w' m.ab m.M M') : Wd w' { m with M := M' } { s with A := A' } := by
  have nt : ∀ {t b l}, Row w b t l → t ≠ 114 → t ≠ 71 → t ≠ 31 → ¬ OwnA m.ab m.M b := fun hr => h.arn.ntag hr
  refine ⟨st.kp.row h.row (nt h.row (by decide) (by decide) (by decide)), ha, h.tbl.stA h.arn st, h.ok, h.live.kp st.kp (fun b hb => ?_) (fun x hx q => ?_), fun x hx => ?_⟩
  · obtain ⟨l, hr⟩ := h.live.sl.row hb; exact nt hr (by decide) (by decide) (by decide)
  · rcases q with q | q | q
    · exact row_ne (h.live.rw x hx) h.arn.row (by decide) q
    · exact h.nwb x hx q
    · obtain ⟨l, hr⟩ := h.arn.sd.row q; exact row_ne (h.live.rw x hx) hr (by decide) rfl
  · show x.b ≠ M'.wb
    rw [st.wb]; exact h.nwb x hx

theorem ix_1 {b n cap i : Nat} (hi : i < n) (hK : K (P b i) w) : ixs 1 (.slice (some ⟨b, 0, none⟩) n cap) (I (i : Nat)) K w := by
  refine ⟨⟨by omega, by omega⟩, ?_⟩
  have e : ((i : Int)).toNat = i := by omega
  rw [e, add_mk, Nat.mul_one, Nat.zero_add]
  exact hK

/-- the words at an address -/
def cut (A : Ar) (a n : Nat) : List Nat := (List.range n).map (fun i => A.ws (a + i))
theorem cut_len (A : Ar) (a n : Nat) : (cut A a n).length = n := by simp [cut]
theorem read_ok {a i : Nat} (ht : Tbl w tb pb ab T) (ok : T.Ok) (ha : Arn w ab M A) {wdb : Nat} {l : List Value} (hr : Row w wdb 50 l) (h0 : l[0]? = some (P ab 0)) (h1 : l[1]? = some (P tb 0)) (hi : i < T.ps.length) (hat : a + T.ps[i].bw ≤ 4096)
    (hK : ∀ w' nb, Arn w' ab M (tk A T.ps[i].bw) → Row w' nb 71 ((cut A a T.ps[i].bw).map U64) → w.heap.size ≤ nb → Kp (fun b => b = ab) w w' → K (.slice (some ⟨nb, 0, none⟩) T.ps[i].bw T.ps[i].bw) w') : cl Tryd.prog 38 #[P wdb 0, I (i : Nat), U32 a] K w := by
  obtain ⟨hok, _, _⟩ := ok.sh _ (List.getElem_mem hi)
  have hb2 := hok.bw2
  apply c38
  unfold s38_p4
  try simp only [e_fd, e_nck, e_pkt, e_pkf, e_gdtt, e_gdtf, e_gdft, e_gdff, e_ift, e_iff, e_not, e_ln, e_lnT, e_cp, e_cvi, e_ex20, e_ex21, e_ex30, e_ex31, e_ex32, e_add, e_sub, e_mul, e_quo, e_rem, e_and, e_or, e_xor, e_shl, e_shr, e_eql, e_neq, e_lss, e_leq, e_gtr, e_geq, e_beq, e_bne, e_peq1, e_peq2, e_pne1, e_pne2, e_zeq1, e_zeq2, e_zne1, e_zne2, e_feq1, e_fne1, e_feq2, e_fne2, e_seq, e_sne, e_ta1, e_ta2, Nat.zero_add, Nat.add_zero, Bool.not_true, Bool.not_false]
  refine ld1_r hr h1 ?_
  refine info_ok ht (fun q => absurd ⟨by omega, by omega⟩ q) (fun j hj hij w1 hk1 => ?_)
  have : j = i := by omega
  subst this
  generalize T.ps[j] = sh at *
  try simp only [e_fd, e_nck, e_pkt, e_pkf, e_gdtt, e_gdtf, e_gdft, e_gdff, e_ift, e_iff, e_not, e_ln, e_lnT, e_cp, e_cvi, e_ex20, e_ex21, e_ex30, e_ex31, e_ex32, e_add, e_sub, e_mul, e_quo, e_rem, e_and, e_or, e_xor, e_shl, e_shr, e_eql, e_neq, e_lss, e_leq, e_gtr, e_geq, e_beq, e_bne, e_peq1, e_peq2, e_pne1, e_pne2, e_zeq1, e_zeq2, e_zne1, e_zne2, e_feq1, e_fne1, e_feq2, e_fne2, e_seq, e_sne, e_ta1, e_ta2, Nat.zero_add, Nat.add_zero, Bool.not_true, Bool.not_false]
  refine nw_r fun w2 r2 hk2 hz2 => ?_
  refine stn_r r2 rfl (show 0 + 3 ≤ 3 by decide) rfl fun w3 r3 hk3 hz3 => ?_
  have r3' : Row w3 w1.heap.size 68 [U32 sh.fst, U32 sh.bw, U32 sh.n] := r3
  try simp only [e_fd, e_nck, e_pkt, e_pkf, e_gdtt, e_gdtf, e_gdft, e_gdff, e_ift, e_iff, e_not, e_ln, e_lnT, e_cp, e_cvi, e_ex20, e_ex21, e_ex30, e_ex31, e_ex32, e_add, e_sub, e_mul, e_quo, e_rem, e_and, e_or, e_xor, e_shl, e_shr, e_eql, e_neq, e_lss, e_leq, e_gtr, e_geq, e_beq, e_bne, e_peq1, e_peq2, e_pne1, e_pne2, e_zeq1, e_zeq2, e_zne1, e_zne2, e_feq1, e_fne1, e_feq2, e_fne2, e_seq, e_sne, e_ta1, e_ta2, Nat.zero_add, Nat.add_zero, Bool.not_true, Bool.not_false]
  refine ld1_r r3' rfl ?_
  have hk03 : Kp (fun _ => False) w w3 := hk1.trans (hk2.then hk3 (fun k hk (q : k = _) => by omega))
  refine mks_r (by omega) (by omega) fun w4 r4 hk4 hz4 => ?_
  have hk04 := hk03.trans hk4
  try simp only [e_fd, e_nck, e_pkt, e_pkf, e_gdtt, e_gdtf, e_gdft, e_gdff, e_ift, e_iff, e_not, e_ln, e_lnT, e_cp, e_cvi, e_ex20, e_ex21, e_ex30, e_ex31, e_ex32, e_add, e_sub, e_mul, e_quo, e_rem, e_and, e_or, e_xor, e_shl, e_shr, e_eql, e_neq, e_lss, e_leq, e_gtr, e_geq, e_beq, e_bne, e_peq1, e_peq2, e_pne1, e_pne2, e_zeq1, e_zeq2, e_zne1, e_zne2, e_feq1, e_fne1, e_feq2, e_fne2, e_seq, e_sne, e_ta1, e_ta2, Nat.zero_add, Nat.add_zero, Bool.not_true, Bool.not_false]
  have sz03 := hk03.size
  have e0 : List.map U64 (cut A a 0 ++ List.replicate (sh.bw - 0) 0) = List.replicate sh.bw (U64 0) := by simp [cut]
  refine ⟨fun n l' w' => ∃ k : Nat, k ≤ sh.bw ∧ n = sh.bw - k ∧ l' = [P wdb 0, U32 a, .slice (some ⟨w3.heap.size, 0, none⟩) sh.bw sh.bw, I sh.bw, I k] ∧ Arn w' ab M (tk A k) ∧ Row w' w3.heap.size 71 ((cut A a k ++ List.replicate (sh.bw - k) 0).map U64) ∧ Row w' wdb 50 l ∧ Kp (fun b => b = ab) w w',
    sh.bw, ⟨0, by omega, by omega, rfl, ?_, (by rw [e0]; exact r4), hk04.row' hr, hk04.none⟩, ?_⟩
  · have : tk A 0 = A := by unfold tk; rw [tick_0 ha.st]
    rw [this]; exact ha.kp' hk04
  rintro n l' w5 ⟨k, hk, rfl, rfl, h5, r5, hr5, hk5⟩
  rw [s38_p3_Fe]
  unfold s38_p2
  try simp only [e_fd, e_nck, e_pkt, e_pkf, e_gdtt, e_gdtf, e_gdft, e_gdff, e_ift, e_iff, e_not, e_ln, e_lnT, e_cp, e_cvi, e_ex20, e_ex21, e_ex30, e_ex31, e_ex32, e_add, e_sub, e_mul, e_quo, e_rem, e_and, e_or, e_xor, e_shl, e_shr, e_eql, e_neq, e_lss, e_leq, e_gtr, e_geq, e_beq, e_bne, e_peq1, e_peq2, e_pne1, e_pne2, e_zeq1, e_zeq2, e_zne1, e_zne2, e_feq1, e_fne1, e_feq2, e_fne2, e_seq, e_sne, e_ta1, e_ta2, Nat.zero_add, Nat.add_zero, Bool.not_true, Bool.not_false]
  by_cases hlt : k < sh.bw
  · have hlt' : (k : Int) < ((sh.bw : Nat) : Int) := by omega
    simp only [hlt', decide_true, e_fd, e_nck, e_pkt, e_pkf, e_gdtt, e_gdtf, e_gdft, e_gdff, e_ift, e_iff, e_not, e_ln, e_lnT, e_cp, e_cvi, e_ex20, e_ex21, e_ex30, e_ex31, e_ex32, e_add, e_sub, e_mul, e_quo, e_rem, e_and, e_or, e_xor, e_shl, e_shr, e_eql, e_neq, e_lss, e_leq, e_gtr, e_geq, e_beq, e_bne, e_peq1, e_peq2, e_pne1, e_pne2, e_zeq1, e_zeq2, e_zne1, e_zne2, e_feq1, e_fne1, e_feq2, e_fne2, e_seq, e_sne, e_ta1, e_ta2, Nat.zero_add, Nat.add_zero, Bool.not_true, Bool.not_false]
    refine ld1_r hr5 h0 ?_
    try simp only [e_fd, e_nck, e_pkt, e_pkf, e_gdtt, e_gdtf, e_gdft, e_gdff, e_ift, e_iff, e_not, e_ln, e_lnT, e_cp, e_cvi, e_ex20, e_ex21, e_ex30, e_ex31, e_ex32, e_add, e_sub, e_mul, e_quo, e_rem, e_and, e_or, e_xor, e_shl, e_shr, e_eql, e_neq, e_lss, e_leq, e_gtr, e_geq, e_beq, e_bne, e_peq1, e_peq2, e_pne1, e_pne2, e_zeq1, e_zeq2, e_zne1, e_zne2, e_feq1, e_fne1, e_feq2, e_fne2, e_seq, e_sne, e_ta1, e_ta2, Nat.zero_add, Nat.add_zero, Bool.not_true, Bool.not_false]
    rw [w32 (show k < 4294967296 by omega), show ((a : Nat) : Int) + ((k : Nat) : Int) = ((a + k : Nat) : Int) by omega, w32 (show a + k < 4294967296 by omega)]
    refine load_ok h5 (by omega) fun w6 h6 hk6 => ?_
    simp only [if_pos (show a + k < 4096 by omega), e_fd, e_nck, e_pkt, e_pkf, e_gdtt, e_gdtf, e_gdft, e_gdff, e_ift, e_iff, e_not, e_ln, e_lnT, e_cp, e_cvi, e_ex20, e_ex21, e_ex30, e_ex31, e_ex32, e_add, e_sub, e_mul, e_quo, e_rem, e_and, e_or, e_xor, e_shl, e_shr, e_eql, e_neq, e_lss, e_leq, e_gtr, e_geq, e_beq, e_bne, e_peq1, e_peq2, e_pne1, e_pne2, e_zeq1, e_zeq2, e_zne1, e_zne2, e_feq1, e_fne1, e_feq2, e_fne2, e_seq, e_sne, e_ta1, e_ta2, Nat.zero_add, Nat.add_zero, Bool.not_true, Bool.not_false]
    refine ix_1 hlt ?_
    have n6 : ¬ w3.heap.size = ab := fun q => row_ne r5 h5.row (by decide) q
    have r6 := hk6.row r5 n6
    refine st1_r r6 (by simp [cut]; omega) rfl fun w7 r7 hk7 hz7 => ?_
    have hwb : w3.heap.size ≠ M.wb := by have := ha.lt (.inr (.inl rfl)); omega
    have hso : M.sob ≠ some w3.heap.size := fun q => by have := ha.lt (.inr (.inr q)); omega
    have h7 := h6.frame hk7 (fun b hb (q : b = _) => by
      subst q
      rcases hb with q | q | q
      · exact n6 q
      · exact hwb q
      · exact hso q)
    try simp only [e_fd, e_nck, e_pkt, e_pkf, e_gdtt, e_gdtf, e_gdft, e_gdff, e_ift, e_iff, e_not, e_ln, e_lnT, e_cp, e_cvi, e_ex20, e_ex21, e_ex30, e_ex31, e_ex32, e_add, e_sub, e_mul, e_quo, e_rem, e_and, e_or, e_xor, e_shl, e_shr, e_eql, e_neq, e_lss, e_leq, e_gtr, e_geq, e_beq, e_bne, e_peq1, e_peq2, e_pne1, e_pne2, e_zeq1, e_zeq2, e_zne1, e_zne2, e_feq1, e_fne1, e_feq2, e_fne2, e_seq, e_sne, e_ta1, e_ta2, Nat.zero_add, Nat.add_zero, Bool.not_true, Bool.not_false]
    rw [wrap64_id (by omega) (by omega)]
    refine ⟨sh.bw - (k + 1), by omega, k + 1, by omega, rfl, by simp, ?_, ?_, hk7.row (hk6.row hr5 (fun q => row_ne hr5 h5.row (by decide) q)) (fun (q : _ = _) => row_ne hr5 r5 (by decide) q), (hk5.trans hk6).then hk7 (fun b hb (q : b = _) => by omega)⟩
    · have : tk A (k + 1) = { tk A k with st := tick (tk A k).st 1 } := by unfold tk; simp only [tick_add]
      rw [this]; exact h7
    · have e : ((cut A a k ++ List.replicate (sh.bw - k) 0).map U64).set k (U64 (A.ws (a + k))) = (cut A a (k + 1) ++ List.replicate (sh.bw - (k + 1)) 0).map U64 := by
        have e1 : cut A a (k + 1) = cut A a k ++ [A.ws (a + k)] := by unfold cut; rw [List.range_succ, List.map_append]; rfl
        rw [← List.map_set, e1]
        congr 1
        rw [List.set_append, if_neg (by rw [cut_len]; omega), cut_len, Nat.sub_self, show sh.bw - k = (sh.bw - (k + 1)) + 1 by omega, List.replicate_succ, List.set_cons_zero, List.append_assoc]
        rfl
      rw [← e]; exact r7
  · have hlt' : ¬ (k : Int) < ((sh.bw : Nat) : Int) := by omega
    simp only [hlt', decide_false, e_fd, e_nck, e_pkt, e_pkf, e_gdtt, e_gdtf, e_gdft, e_gdff, e_ift, e_iff, e_not, e_ln, e_lnT, e_cp, e_cvi, e_ex20, e_ex21, e_ex30, e_ex31, e_ex32, e_add, e_sub, e_mul, e_quo, e_rem, e_and, e_or, e_xor, e_shl, e_shr, e_eql, e_neq, e_lss, e_leq, e_gtr, e_geq, e_beq, e_bne, e_peq1, e_peq2, e_pne1, e_pne2, e_zeq1, e_zeq2, e_zne1, e_zne2, e_feq1, e_fne1, e_feq2, e_fne2, e_seq, e_sne, e_ta1, e_ta2, Nat.zero_add, Nat.add_zero, Bool.not_true, Bool.not_false]
    unfold s38_p1
    have ek : k = sh.bw := by omega
    subst ek
    rw [Nat.sub_self, List.replicate_zero, List.append_nil] at r5
    exact hK w5 w3.heap.size h5 r5 sz03 hk5

/-- a step of the script -/
structure Op where
  kind : Nat
  a : Int
  b : Int
  c : Int
/-- a step with its operands worked out -/
structure Call where
  kind : Nat
  pool : Int
  at_ : Nat
  pick : Int
  a : Int
  b : Int
def u8 (n : Nat) : Value := .int .u8 (n : Int)
def opc (o : Op) : List Value := [u8 o.kind, I o.a, I o.b, I o.c]
def cac (c : Call) : List Value := [u8 c.kind, I c.pool, U32 c.at_, I c.pick, I c.a, I c.b]
def m32 (n : Int) : Nat := (n % 4294967296).toNat
theorem m32_eq (n : Int) : ((m32 n : Nat) : Int) = n % 4294967296 := by unfold m32; omega
theorem m32_lt (n : Int) : m32 n < 4294967296 := by unfold m32; omega
theorem wrapM (n : Int) : IntKind.u32.wrap n = ((m32 n : Nat) : Int) := by rw [wrapU32, m32_eq]
end
end Go.Proofs.Qxb6500893aDoor
