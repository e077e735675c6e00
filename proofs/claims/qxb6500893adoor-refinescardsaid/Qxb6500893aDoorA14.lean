import Derived.Test.Qxb6500893aDoorA13
import Derived.Test.Qxb6500893aDoorShTV
import Derived.Test.Qxb6500893aDoorShFlat
namespace Go.Proofs.Qxb6500893aDoor
open Go.Sh Go.RowKit
set_option linter.unusedVariables false
set_option linter.unusedSimpArgs false

/-! ### the script -/
structure Op.Wf (o : Op) : Prop where
  kind : o.kind < 256
  a : -9223372036854775808 ≤ o.a ∧ o.a ≤ 9223372036854775807
  b : -9223372036854775808 ≤ o.b ∧ o.b ≤ 9223372036854775807
  c : -9223372036854775808 ≤ o.c ∧ o.c ≤ 9223372036854775807
def Scr (W : World) (v : Value) (ops : List Op) : Prop :=
  (∀ o ∈ ops, o.Wf) ∧ ((v = .slice none 0 0 ∧ ops = []) ∨ ∃ a cap, v = .slice (some a) ops.length cap ∧ ∀ i (h : i < ops.length), W.cells? 0 (a.add (i * 4)) 4 = some (opc ops[i]))
theorem wf64 {n : Int} (h : (Lit.int .i64 n).wf = true) : -9223372036854775808 ≤ n ∧ n ≤ 9223372036854775807 := by
  have e1 : IntKind.i64.min = -9223372036854775808 := by decide
  have e2 : IntKind.i64.max = 9223372036854775807 := by decide
  simp only [Lit.wf, e1, e2, decide_eq_true_eq, Bool.and_eq_true] at h
  exact h
theorem wf8 {n : Int} (h : (Lit.int .u8 n).wf = true) : 0 ≤ n ∧ n ≤ 255 := by
  have e1 : IntKind.u8.min = 0 := by decide
  have e2 : IntKind.u8.max = 255 := by decide
  simp only [Lit.wf, e1, e2, decide_eq_true_eq, Bool.and_eq_true] at h
  exact h
set_option maxRecDepth 100000 in
theorem flat28 : flatKs Tryd.prog 28 [.u8, .i64, .i64, .i64] = true := by kernel_rfl
set_option maxRecDepth 100000 in
theorem cells28 : Tryd.prog.cellsOf 28 = 4 := by kernel_rfl
theorem scr_of_tv {W : World} {f : Nat} {v : Value} (h : TV Tryd.prog W f 22 v.cells.toList) (hv : ∃ a n c, v = .slice a n c) : ∃ ops, Scr W v ops := by
  obtain ⟨a0, n0, c0, rfl⟩ := hv
  rcases tv_slice Tryd.underlying22 h with e | ⟨a, len, cap, g, e, _, hl, hm, hel⟩
  · have : (Value.slice a0 n0 c0) = .slice none 0 0 := by simpa [Value.cells] using e
    exact ⟨[], by simp, .inl ⟨this, rfl⟩⟩
  · have e' : (Value.slice a0 n0 c0) = .slice (some a) len cap := by simpa [Value.cells] using e
    have hex : ∀ i, i < len → ∃ o : Op, W.cells? 0 (a.add (i * 4)) 4 = some (opc o) ∧ o.Wf := by
      intro i hi
      obtain ⟨ds, h1, h2⟩ := hel i hi
      rw [cells28] at h1
      obtain ⟨ns, hn, hd, hw⟩ := tv_flat flat28 h2
      match ns, hn with
      | [x0, x1, x2, x3], _ =>
        obtain ⟨w0, w1, w2, w3, _⟩ := hw
        have h8 := wf8 w0
        refine ⟨⟨x0.toNat, x1, x2, x3⟩, ?_, ⟨by show x0.toNat < 256; omega, wf64 w1, wf64 w2, wf64 w3⟩⟩
        rw [h1, hd]
        have e8 : ((x0.toNat : Nat) : Int) = x0 := by omega
        show some [Value.int .u8 x0, I x1, I x2, I x3] = some [.int .u8 ((x0.toNat : Nat) : Int), I x1, I x2, I x3]
        rw [e8]
    obtain ⟨ops, hlen, hops⟩ := choose_list len _ hex
    refine ⟨ops, ?_, .inr ⟨a, cap, by rw [e', hlen], fun i hi => (hops i hi).1⟩⟩
    intro o ho
    obtain ⟨i, hi, rfl⟩ := List.getElem_of_mem ho
    exact (hops i hi).2

section
variable {W w w' : World} {v : Value} {ops : List Op} {K : Value → World → Prop} {k : Value → World → Prop} {s s' : Ws} {m m' m0 : Wm} {ab : Nat} {M : Am} {A : Ar}
theorem Scr.ln (h : Scr W v ops) (hk : K (I ops.length) w) : lnS v K w := by
  rcases h.2 with ⟨rfl, rfl⟩ | ⟨a, cap, rfl, _⟩
  · exact hk
  · exact hk
theorem Scr.read (h : Scr W v ops) (hb : Below W.heap.size W w) {i : Nat} (hi : i < ops.length) (hk : K (.agg (opc ops[i]).toArray) w) :
    ixs 4 v (I i) (fun p w => ldn 4 p K w) w := by
  rcases h.2 with ⟨rfl, rfl⟩ | ⟨a, cap, rfl, hc⟩
  · simp at hi
  · refine ⟨⟨by omega, by omega⟩, ?_⟩
    have ei : ((i : Int)).toNat = i := by omega
    rw [ei]
    exact ldn_in hb (hc i hi) hk
/-- the head of a round: a step of the script goes into a new block -/
theorem Scr.take (h : Scr W v ops) (hb : Below W.heap.size W w) {i : Nat} (hi : i < ops.length)
    (hk : ∀ w1 b, Row w1 b 28 (opc ops[i]) → Kp (fun _ => False) w w1 → w.heap.size ≤ b → k (P b 0) w1) :
    ixs 4 v (I i) (fun p w => ldn 4 p (fun x w => nw 28 #[(.int .u8 0), (.int .i64 0), (.int .i64 0), (.int .i64 0)] (fun t w => stn 4 t x (fun w => k t w) w) w) w) w := by
  refine h.read hb hi ?_
  refine nw_r fun w1 r1 hb1 hz1 => ?_
  refine stn_r r1 rfl (Nat.le_of_ble_eq_true rfl) rfl fun w2 r2 hb2 hz2 => ?_
  exact hk w2 _ r2 (hb1.then hb2 (by intro k hk (e : k = _); omega)) (Nat.le_refl _)
theorem small_ok (h : Scr W v ops) (hK : K (.bool (decide (ops.length ≤ 65536))) w) : cl Tryd.prog 11 #[v] K w := by
  apply c11
  unfold s11_p1
  refine h.ln ?_
  try simp only [e_fd, e_nck, e_pkt, e_pkf, e_gdtt, e_gdtf, e_gdft, e_gdff, e_ift, e_iff, e_not, e_ln, e_lnT, e_cp, e_cvi, e_ex20, e_ex21, e_ex30, e_ex31, e_ex32, e_add, e_sub, e_mul, e_quo, e_rem, e_and, e_or, e_xor, e_shl, e_shr, e_eql, e_neq, e_lss, e_leq, e_gtr, e_geq, e_beq, e_bne, e_peq1, e_peq2, e_pne1, e_pne2, e_zeq1, e_zeq2, e_zne1, e_zne2, e_feq1, e_fne1, e_feq2, e_fne2, e_seq, e_sne, e_ta1, e_ta2, Nat.zero_add, Nat.add_zero, Bool.not_true, Bool.not_false]
  by_cases hl : 65536 < (ops.length : Int)
  · simp only [e_fd, e_nck, e_pkt, e_pkf, e_gdtt, e_gdtf, e_gdft, e_gdff, e_ift, e_iff, e_not, e_ln, e_lnT, e_cp, e_cvi, e_ex20, e_ex21, e_ex30, e_ex31, e_ex32, e_add, e_sub, e_mul, e_quo, e_rem, e_and, e_or, e_xor, e_shl, e_shr, e_eql, e_neq, e_lss, e_leq, e_gtr, e_geq, e_beq, e_bne, e_peq1, e_peq2, e_pne1, e_pne2, e_zeq1, e_zeq2, e_zne1, e_zne2, e_feq1, e_fne1, e_feq2, e_fne2, e_seq, e_sne, e_ta1, e_ta2, Nat.zero_add, Nat.add_zero, Bool.not_true, Bool.not_false, hl, decide_true]
    have : decide (ops.length ≤ 65536) = false := by simp; omega
    rw [this] at hK; exact hK
  · simp only [e_fd, e_nck, e_pkt, e_pkf, e_gdtt, e_gdtf, e_gdft, e_gdff, e_ift, e_iff, e_not, e_ln, e_lnT, e_cp, e_cvi, e_ex20, e_ex21, e_ex30, e_ex31, e_ex32, e_add, e_sub, e_mul, e_quo, e_rem, e_and, e_or, e_xor, e_shl, e_shr, e_eql, e_neq, e_lss, e_leq, e_gtr, e_geq, e_beq, e_bne, e_peq1, e_peq2, e_pne1, e_pne2, e_zeq1, e_zeq2, e_zne1, e_zne2, e_feq1, e_fne1, e_feq2, e_fne2, e_seq, e_sne, e_ta1, e_ta2, Nat.zero_add, Nat.add_zero, Bool.not_true, Bool.not_false, hl, decide_false]
    have : decide (ops.length ≤ 65536) = true := by simp; omega
    rw [this] at hK; exact hK

/-! ### a new world -/
theorem e_unx {q : IntKind} {n : Int} : un .xor (.int q n) K w = K (.int q (q.wrap (BitVec.ofInt q.bits (if q.signed then -1 else q.max) ^^^ BitVec.ofInt q.bits n).toNat)) w := rfl
theorem arena_ok (hK : ∀ w' ab M A, Arn w' ab M A → A.sd = [] → Kp (fun _ => False) w w' → w.heap.size ≤ ab → w.heap.size ≤ M.wb → M.sob = none → K (P ab 0) w') : cl Tryd.prog 27 #[I 4096] K w := by
  apply c27
  unfold s27_p1
  refine mks_r (n := 4096) (by decide) (by decide) fun w1 r1 hk1 hz1 => ?_
  refine bdq_r (l := [.slice (some ⟨w.heap.size, 0, none⟩) 4096 4096, U64 0, nilS]) rfl ?_
  refine nw_r fun w2 r2 hk2 hz2 => ?_
  have r1' : Row w2 w.heap.size 71 (tabW 4096 (fun _ => 0)) := by
    have e : tabW 4096 (fun _ => 0) = List.replicate 4096 (U64 0) := by
      unfold tabW
      rw [List.map_const', List.length_range]
    rw [e]
    exact hk2.row' r1
  exact hK w2 w1.heap.size ⟨w.heap.size, nilS, none⟩ ⟨fun _ => 0, 0, []⟩ ⟨r2, r1', ⟨rfl, rfl⟩, fun i hi => by show 0 < _; decide, by show 0 < _; decide⟩ rfl (hk1.trans hk2) (by omega) (Nat.le_refl _) rfl
theorem popen_ok {b n : Nat} (hb : b + n ≤ 4096) (hn : 1 ≤ n) (hK : ∀ w', Row w' w.heap.size 54 [I n, nilS] → Kp (fun _ => False) w w' → K (.tuple #[P w.heap.size 0, I 0]) w') : cl Tryd.prog 30 #[I 4096, I b, I n] K w := by
  apply c30
  unfold s30_p1
  have e1 : ¬ ((n : Nat) : Int) < 1 := by omega
  have e2 : ¬ ((b : Nat) : Int) < 0 := by omega
  have e3 : IntKind.i64.wrap (((b : Nat) : Int) + ((n : Nat) : Int)) = (b : Int) + n := wrap64_id (by omega) (by omega)
  have e4 : ¬ (4096 : Int) < ((b : Nat) : Int) + ((n : Nat) : Int) := by omega
  simp only [e1, e2, e3, e4, decide_false, e_fd, e_nck, e_pkt, e_pkf, e_gdtt, e_gdtf, e_gdft, e_gdff, e_ift, e_iff, e_not, e_ln, e_lnT, e_cp, e_cvi, e_ex20, e_ex21, e_ex30, e_ex31, e_ex32, e_add, e_sub, e_mul, e_quo, e_rem, e_and, e_or, e_xor, e_shl, e_shr, e_eql, e_neq, e_lss, e_leq, e_gtr, e_geq, e_beq, e_bne, e_peq1, e_peq2, e_pne1, e_pne2, e_zeq1, e_zeq2, e_zne1, e_zne2, e_feq1, e_fne1, e_feq2, e_fne2, e_seq, e_sne, e_ta1, e_ta2, Nat.zero_add, Nat.add_zero, Bool.not_true, Bool.not_false]
  refine bdq_r (l := [I n, nilS]) rfl ?_
  refine nw_r fun w1 r1 hk1 hz1 => ?_
  exact hK w1 r1 hk1

/-- the state of a law's loop -/
structure LSt (W w : World) (m : Wm) (s : Ws) : Prop where
  wd : Wd w m s
  own : ∀ b, OwnW m s.L b → W.heap.size ≤ b
  bel : Below W.heap.size W w
theorem LSt.kp (h : LSt W w m s) {C : Nat → Prop} (hk : Kp C w w') (hC : ∀ b, C b → W.heap.size ≤ b ∧ ¬ OwnW m s.L b) : LSt W w' m s :=
  ⟨h.wd.frame hk (fun b q c => (hC b c).2 q), h.own, h.bel.trans (hk.below h.bel.size fun k hk' q => by have := (hC k q).1; omega)⟩
theorem LSt.kp' (h : LSt W w m s) (hk : Kp (fun _ => False) w w') : LSt W w' m s := h.kp hk (fun _ q => q.elim)
theorem LSt.tmp (h : LSt W w m s) {b : Nat} {t : TypeId} {l : List Value} (hr : Row w b t l) (hb : W.heap.size ≤ b) (hk : Kp (fun k => k = b) w w') (ht : [50, 114, 71, 31, 106, 112, 66].contains t = false) : LSt W w' m s :=
  h.kp hk (fun k (e : k = b) => ⟨by omega, by rw [e]; exact h.wd.ntag hr ht⟩)
theorem LSt.st (h : LSt W w m s) (hw : Wd w' m' s') (st : StW w w' m s.L m' s'.L) : LSt W w' m' s' := by
  have hz := h.bel.size
  refine ⟨hw, fun b hb => ?_, h.bel.trans (st.kp.below hz fun k hk q => by have := h.own k q; omega)⟩
  rcases st.own b hb with q | q
  · exact h.own b q
  · omega

theorem newWorld_ok (g0 : W.cell? ⟨0, 0, none⟩ = some (U32 24)) (g1 : W.cell? ⟨0, 1, none⟩ = some (U32 4040)) (hbW : Below W.heap.size W w)
    (hK : ∀ w' m A mb, LSt W w' m ⟨A, openT 24 4040, []⟩ → (∀ b, OwnW m [] b → w.heap.size ≤ b) → m.md = P mb 0 → Row w' mb 54 [I 4040, nilS] → w.heap.size ≤ mb → Kp (fun _ => False) w w' → K (P m.wdb 0) w') : cl Tryd.prog 12 #[] K w := by
  apply c12
  unfold s12_p6
  refine arena_ok fun w1 ab M1 A1 a1 hsd1 hk1 hz1 hwb1 hso1 => ?_
  refine bdq_r (l := [P ab 0, .pointer none, .pointer none, nilS]) rfl ?_
  refine nw_r fun w2 r2 hk2 hz2 => ?_
  unfold s12_p5
  have hwd : w1.heap.size ≤ w1.heap.size := Nat.le_refl _
  have sz1 := hk1.size
  obtain ⟨N, hN⟩ : ∃ N : Nat, N = 4096 := ⟨_, rfl⟩
  refine ⟨fun n l w' => ∃ k : Nat, n + k = N ∧ l = [P w1.heap.size 0, I k] ∧ ∃ M A, Arn w' ab M A ∧ A.sd.length = k ∧ Row w' w1.heap.size 50 [P ab 0, .pointer none, .pointer none, nilS] ∧ Kp (fun _ => False) w w' ∧ w.heap.size ≤ M.wb ∧ (∀ b, M.sob = some b → w.heap.size ≤ b),
    N, ?_, ?_⟩
  · have l0 : A1.sd.length = 0 := by rw [hsd1]; rfl
    have a2 := a1.kp' hk2
    have r2' : Row w2 w1.heap.size 50 [P ab 0, .pointer none, .pointer none, nilS] := r2
    have so2 : ∀ b, M1.sob = some b → w.heap.size ≤ b := fun b hb => by rw [hso1] at hb; cases hb
    refine ⟨0, ?_, ?_, M1, A1, a2, l0, r2', hk1.trans hk2, hwb1, so2⟩
    · exact Nat.add_zero N
    · rfl
  rintro n l w3 ⟨k, hn, rfl, M, A, a3, hsd, r3, k03, hwb, hso⟩
  rw [s12_p5_Fe]
  unfold s12_p4
  try simp only [e_fd, e_nck, e_pkt, e_pkf, e_gdtt, e_gdtf, e_gdft, e_gdff, e_ift, e_iff, e_not, e_ln, e_lnT, e_cp, e_cvi, e_ex20, e_ex21, e_ex30, e_ex31, e_ex32, e_add, e_sub, e_mul, e_quo, e_rem, e_and, e_or, e_xor, e_shl, e_shr, e_eql, e_neq, e_lss, e_leq, e_gtr, e_geq, e_beq, e_bne, e_peq1, e_peq2, e_pne1, e_pne2, e_zeq1, e_zeq2, e_zne1, e_zne2, e_feq1, e_fne1, e_feq2, e_fne2, e_seq, e_sne, e_ta1, e_ta2, Nat.zero_add, Nat.add_zero, Bool.not_true, Bool.not_false]
  generalize hdd : decide ((k : Int) < 4096) = d
  cases d with
  | true =>
    have hlt' : (k : Int) < 4096 := of_decide_eq_true hdd
    have hlt : k < 4096 := by omega
    try simp only [e_fd, e_nck, e_pkt, e_pkf, e_gdtt, e_gdtf, e_gdft, e_gdff, e_ift, e_iff, e_not, e_ln, e_lnT, e_cp, e_cvi, e_ex20, e_ex21, e_ex30, e_ex31, e_ex32, e_add, e_sub, e_mul, e_quo, e_rem, e_and, e_or, e_xor, e_shl, e_shr, e_eql, e_neq, e_lss, e_leq, e_gtr, e_geq, e_beq, e_bne, e_peq1, e_peq2, e_pne1, e_pne2, e_zeq1, e_zeq2, e_zne1, e_zne2, e_feq1, e_fne1, e_feq2, e_fne2, e_seq, e_sne, e_ta1, e_ta2, Nat.zero_add, Nat.add_zero, Bool.not_true, Bool.not_false]
    refine ld1_r r3 rfl ?_
    simp only [e_unx, e_fd, e_nck, e_pkt, e_pkf, e_gdtt, e_gdtf, e_gdft, e_gdff, e_ift, e_iff, e_not, e_ln, e_lnT, e_cp, e_cvi, e_ex20, e_ex21, e_ex30, e_ex31, e_ex32, e_add, e_sub, e_mul, e_quo, e_rem, e_and, e_or, e_xor, e_shl, e_shr, e_eql, e_neq, e_lss, e_leq, e_gtr, e_geq, e_beq, e_bne, e_peq1, e_peq2, e_pne1, e_pne2, e_zeq1, e_zeq2, e_zne1, e_zne2, e_feq1, e_fne1, e_feq2, e_fne2, e_seq, e_sne, e_ta1, e_ta2, Nat.zero_add, Nat.add_zero, Bool.not_true, Bool.not_false]
    rw [w32 (show k < 4294967296 by omega), wrapM64 (_ * 65537)]
    refine store_ok a3 hlt (m64_lt _) (by omega) fun w4 M4 a4 st4 => ?_
    try simp only [e_fd, e_nck, e_pkt, e_pkf, e_gdtt, e_gdtf, e_gdft, e_gdff, e_ift, e_iff, e_not, e_ln, e_lnT, e_cp, e_cvi, e_ex20, e_ex21, e_ex30, e_ex31, e_ex32, e_add, e_sub, e_mul, e_quo, e_rem, e_and, e_or, e_xor, e_shl, e_shr, e_eql, e_neq, e_lss, e_leq, e_gtr, e_geq, e_beq, e_bne, e_peq1, e_peq2, e_pne1, e_pne2, e_zeq1, e_zeq2, e_zne1, e_zne2, e_feq1, e_fne1, e_feq2, e_fne2, e_seq, e_sne, e_ta1, e_ta2, Nat.zero_add, Nat.add_zero, Bool.not_true, Bool.not_false]
    rw [wrap64_id (by omega) (by omega)]
    have hz3 := k03.size
    refine ⟨n - 1, by omega, k + 1, by omega, by simp, M4, _, a4, by simp [put, hsd], st4.kp.row r3 (a3.ntag r3 (by decide) (by decide) (by decide)), k03.then st4.kp (fun b hb q => ?_), by rw [st4.wb]; exact hwb, fun b hb => ?_⟩
    · rcases q with q | q | q
      · omega
      · omega
      · have := hso b q; omega
    · rcases st4.own b hb with q | q
      · exact hso b q
      · omega
  | false =>
    have hlt' : ¬ (k : Int) < 4096 := of_decide_eq_false hdd
    try simp only [e_fd, e_nck, e_pkt, e_pkf, e_gdtt, e_gdtf, e_gdft, e_gdff, e_ift, e_iff, e_not, e_ln, e_lnT, e_cp, e_cvi, e_ex20, e_ex21, e_ex30, e_ex31, e_ex32, e_add, e_sub, e_mul, e_quo, e_rem, e_and, e_or, e_xor, e_shl, e_shr, e_eql, e_neq, e_lss, e_leq, e_gtr, e_geq, e_beq, e_bne, e_peq1, e_peq2, e_pne1, e_pne2, e_zeq1, e_zeq2, e_zne1, e_zne2, e_feq1, e_fne1, e_feq2, e_fne2, e_seq, e_sne, e_ta1, e_ta2, Nat.zero_add, Nat.add_zero, Bool.not_true, Bool.not_false]
    unfold s12_p3
    try simp only [e_fd, e_nck, e_pkt, e_pkf, e_gdtt, e_gdtf, e_gdft, e_gdff, e_ift, e_iff, e_not, e_ln, e_lnT, e_cp, e_cvi, e_ex20, e_ex21, e_ex30, e_ex31, e_ex32, e_add, e_sub, e_mul, e_quo, e_rem, e_and, e_or, e_xor, e_shl, e_shr, e_eql, e_neq, e_lss, e_leq, e_gtr, e_geq, e_beq, e_bne, e_peq1, e_peq2, e_pne1, e_pne2, e_zeq1, e_zeq2, e_zne1, e_zne2, e_feq1, e_fne1, e_feq2, e_fne2, e_seq, e_sne, e_ta1, e_ta2, Nat.zero_add, Nat.add_zero, Bool.not_true, Bool.not_false]
    refine ld1_r r3 rfl ?_
    refine take_ok a3 fun w4 a4 sl4 hk4 => ?_
    have hz3 := k03.size
    have k04 : Kp (fun _ => False) w w4 := k03.then hk4 (fun b hb (q : b = ab) => by omega)
    have r4 := hk4.row r3 (fun (q : _ = _) => row_ne r3 a3.row (by decide) q)
    unfold s12_p2 s12_p2_d
    have kd : Kp (fun _ => False) w4 (drw w4) := kp_drw
    have k05 := k04.trans kd
    have a5 := a4.kp' kd
    have r5 := kd.row' r4
    generalize drw w4 = w5 at k05 a5 r5 ⊢
    have b5 : Below W.heap.size W w5 := hbW.trans (k05.below hbW.size fun _ _ q => q)
    try simp only [e_fd, e_nck, e_pkt, e_pkf, e_gdtt, e_gdtf, e_gdft, e_gdff, e_ift, e_iff, e_not, e_ln, e_lnT, e_cp, e_cvi, e_ex20, e_ex21, e_ex30, e_ex31, e_ex32, e_add, e_sub, e_mul, e_quo, e_rem, e_and, e_or, e_xor, e_shl, e_shr, e_eql, e_neq, e_lss, e_leq, e_gtr, e_geq, e_beq, e_bne, e_peq1, e_peq2, e_pne1, e_pne2, e_zeq1, e_zeq2, e_zne1, e_zne2, e_feq1, e_fne1, e_feq2, e_fne2, e_seq, e_sne, e_ta1, e_ta2, Nat.zero_add, Nat.add_zero, Bool.not_true, Bool.not_false]
    refine ld1_r r5 rfl ?_
    refine ⟨U32 24, cell_below b5 g0, U32 4040, cell_below b5 g1, ?_⟩
    try simp only [e_fd, e_nck, e_pkt, e_pkf, e_gdtt, e_gdtf, e_gdft, e_gdff, e_ift, e_iff, e_not, e_ln, e_lnT, e_cp, e_cvi, e_ex20, e_ex21, e_ex30, e_ex31, e_ex32, e_add, e_sub, e_mul, e_quo, e_rem, e_and, e_or, e_xor, e_shl, e_shr, e_eql, e_neq, e_lss, e_leq, e_gtr, e_geq, e_beq, e_bne, e_peq1, e_peq2, e_pne1, e_pne2, e_zeq1, e_zeq2, e_zne1, e_zne2, e_feq1, e_fne1, e_feq2, e_fne2, e_seq, e_sne, e_ta1, e_ta2, Nat.zero_add, Nat.add_zero, Bool.not_true, Bool.not_false]
    have o0 : openC 24 4040 = 0 := by decide
    refine new_ok (b := 24) (n := 4040) a5 (by decide) (by decide) (fun hn => absurd o0 hn) (fun _ w6 tb pb htb hpb hk6 ht6 => ?_)
    simp only [and_self, e_fd, e_nck, e_pkt, e_pkf, e_gdtt, e_gdtf, e_gdft, e_gdff, e_ift, e_iff, e_not, e_ln, e_lnT, e_cp, e_cvi, e_ex20, e_ex21, e_ex30, e_ex31, e_ex32, e_add, e_sub, e_mul, e_quo, e_rem, e_and, e_or, e_xor, e_shl, e_shr, e_eql, e_neq, e_lss, e_leq, e_gtr, e_geq, e_beq, e_bne, e_peq1, e_peq2, e_pne1, e_pne2, e_zeq1, e_zeq2, e_zne1, e_zne2, e_feq1, e_fne1, e_feq2, e_fne2, e_seq, e_sne, e_ta1, e_ta2, Nat.zero_add, Nat.add_zero, Bool.not_true, Bool.not_false]
    have hz5 := k05.size
    have r6 := hk6.row' r5
    have a6 := a5.kp' hk6
    refine st1_r r6 (show 1 < 4 by decide) rfl fun w7 r7 hk7 hz7 => ?_
    have r7' : Row w7 w1.heap.size 50 [P ab 0, P tb 0, .pointer none, nilS] := r7
    have k07 : Kp (fun _ => False) w w7 := (k05.trans hk6).then hk7 (fun b hb (q : b = _) => by omega)
    have b7 : Below W.heap.size W w7 := hbW.trans (k07.below hbW.size fun _ _ q => q)
    unfold s12_p1
    try simp only [e_fd, e_nck, e_pkt, e_pkf, e_gdtt, e_gdtf, e_gdft, e_gdff, e_ift, e_iff, e_not, e_ln, e_lnT, e_cp, e_cvi, e_ex20, e_ex21, e_ex30, e_ex31, e_ex32, e_add, e_sub, e_mul, e_quo, e_rem, e_and, e_or, e_xor, e_shl, e_shr, e_eql, e_neq, e_lss, e_leq, e_gtr, e_geq, e_beq, e_bne, e_peq1, e_peq2, e_pne1, e_pne2, e_zeq1, e_zeq2, e_zne1, e_zne2, e_feq1, e_fne1, e_feq2, e_fne2, e_seq, e_sne, e_ta1, e_ta2, Nat.zero_add, Nat.add_zero, Bool.not_true, Bool.not_false]
    refine ld1_in b7 g0 ?_
    try simp only [e_fd, e_nck, e_pkt, e_pkf, e_gdtt, e_gdtf, e_gdft, e_gdff, e_ift, e_iff, e_not, e_ln, e_lnT, e_cp, e_cvi, e_ex20, e_ex21, e_ex30, e_ex31, e_ex32, e_add, e_sub, e_mul, e_quo, e_rem, e_and, e_or, e_xor, e_shl, e_shr, e_eql, e_neq, e_lss, e_leq, e_gtr, e_geq, e_beq, e_bne, e_peq1, e_peq2, e_pne1, e_pne2, e_zeq1, e_zeq2, e_zne1, e_zne2, e_feq1, e_fne1, e_feq2, e_fne2, e_seq, e_sne, e_ta1, e_ta2, Nat.zero_add, Nat.add_zero, Bool.not_true, Bool.not_false]
    refine ld1_in b7 g1 ?_
    try simp only [e_fd, e_nck, e_pkt, e_pkf, e_gdtt, e_gdtf, e_gdft, e_gdff, e_ift, e_iff, e_not, e_ln, e_lnT, e_cp, e_cvi, e_ex20, e_ex21, e_ex30, e_ex31, e_ex32, e_add, e_sub, e_mul, e_quo, e_rem, e_and, e_or, e_xor, e_shl, e_shr, e_eql, e_neq, e_lss, e_leq, e_gtr, e_geq, e_beq, e_bne, e_peq1, e_peq2, e_pne1, e_pne2, e_zeq1, e_zeq2, e_zne1, e_zne2, e_feq1, e_fne1, e_feq2, e_fne2, e_seq, e_sne, e_ta1, e_ta2, Nat.zero_add, Nat.add_zero, Bool.not_true, Bool.not_false]
    rw [wrap64_id (by decide) (by decide), wrap64_id (by decide) (by decide)]
    refine popen_ok (b := 24) (n := 4040) (by decide) (by decide) fun w8 r8 hk8 => ?_
    try simp only [e_fd, e_nck, e_pkt, e_pkf, e_gdtt, e_gdtf, e_gdft, e_gdff, e_ift, e_iff, e_not, e_ln, e_lnT, e_cp, e_cvi, e_ex20, e_ex21, e_ex30, e_ex31, e_ex32, e_add, e_sub, e_mul, e_quo, e_rem, e_and, e_or, e_xor, e_shl, e_shr, e_eql, e_neq, e_lss, e_leq, e_gtr, e_geq, e_beq, e_bne, e_peq1, e_peq2, e_pne1, e_pne2, e_zeq1, e_zeq2, e_zne1, e_zne2, e_feq1, e_fne1, e_feq2, e_fne2, e_seq, e_sne, e_ta1, e_ta2, Nat.zero_add, Nat.add_zero, Bool.not_true, Bool.not_false]
    refine st1_r (hk8.row' r7') (show 2 < 4 by decide) rfl fun w9 r9 hk9 hz9 => ?_
    have r9' : Row w9 w1.heap.size 50 [P ab 0, P tb 0, P w7.heap.size 0, nilS] := r9
    have k09 : Kp (fun _ => False) w w9 := (k07.trans hk8).then hk9 (fun b hb (q : b = _) => by omega)
    have n9 : ∀ {t b l}, Row w6 b t l → t ≠ 50 → Row w9 b t l := fun hr ht => by
      have h7 := hk7.row hr (fun (q : _ = _) => row_ne hr r6 ht q)
      have h8 := hk8.row' h7
      exact hk9.row h8 (fun (q : _ = _) => row_ne h8 (hk8.row' r7') ht q)
    have hz7' := k07.size
    obtain ⟨junk, hj, hp⟩ := ht6.pools
    have wd : Wd w9 ⟨w1.heap.size, ab, { M with sv := nilS, sob := none }, tb, pb, none, nilS, P w7.heap.size 0⟩ ⟨{ A with sd := [] }, openT 24 4040, []⟩ :=
      ⟨r9', ⟨n9 a6.row (by decide), n9 a6.ws (by decide), ⟨rfl, rfl⟩, a6.rng, a6.st⟩, ⟨n9 ht6.row (by decide), junk, hj, n9 hp (by decide)⟩, openT_ok o0, ⟨⟨rfl, rfl⟩, fun x hx => (by cases hx), List.nodup_nil, fun x hx => (by cases hx)⟩, fun x hx => (by cases hx)⟩
    have own : ∀ b, OwnW ⟨w1.heap.size, ab, { M with sv := nilS, sob := none }, tb, pb, none, nilS, P w7.heap.size 0⟩ [] b → w.heap.size ≤ b := by
      rintro b (q | (q | q | q) | q | q | q | ⟨x, hx, q⟩)
      · have : b = w1.heap.size := q; omega
      · have : b = ab := q; omega
      · have : b = M.wb := q; omega
      · cases q
      · have : b = tb := q; omega
      · have : b = pb := q; omega
      · cases q
      · cases hx
    have b9 := hbW.size
    refine hK w9 ⟨w1.heap.size, ab, { M with sv := nilS, sob := none }, tb, pb, none, nilS, P w7.heap.size 0⟩ _ w7.heap.size ⟨wd, fun b q => by have := own b q; omega, hbW.trans (k09.below hbW.size fun _ _ q => q)⟩ own rfl (hk9.row r8 (fun (q : _ = _) => row_ne r8 (hk8.row' r7') (by decide) q)) (by omega) k09
end
end Go.Proofs.Qxb6500893aDoor
