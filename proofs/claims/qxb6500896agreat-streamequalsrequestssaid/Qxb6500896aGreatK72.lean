import Derived.Test.Qxb6500896aGreatN8
import Derived.Test.Qxb6500896aGreatShFlat
import Derived.Test.Qxb6500896aGreatShTZ
import Derived.Test.Qxb6500896aGreatShLeaf
namespace Go.Proofs.Qxb6500896aGreat
open Go.Sh Go.RowKit
set_option linter.unusedVariables false
set_option linter.unusedSimpArgs false

/-! ### the script -/
structure Op where
  kind : Int
  bs : List Int
  after : Int
  keep : Int
def opC (p : Op × Value) : List Value := [I p.1.kind, p.2, I p.1.after, I p.1.keep]
theorem opC_len (p : Op × Value) : (opC p).length = 4 := rfl
/-- a script as it is given -/
def Scr (W : World) (v : Value) (xs : List Op) : Prop :=
  ∃ its : List (Op × Value), its.map (·.1) = xs ∧ Ar opC 4 (fun b => b < W.heap.size) W v its ∧ ∀ p ∈ its, Ar bC 1 (fun b => b < W.heap.size) W p.2 p.1.bs ∧ By p.1.bs ∧ p.1.after ≤ 9223372036854775807
set_option maxRecDepth 100000 in
theorem leafOp : leafTs Tryz.prog 4 39 = some [36, 37, 3, 3] := by kernel_rfl
set_option maxRecDepth 100000 in
theorem cellsOp : Tryz.prog.cellsOf 39 = 4 := by kernel_rfl
set_option maxRecDepth 100000 in
theorem bytesOp : 1 ≤ Tryz.prog.bytesOf 39 := Nat.le_of_ble_eq_true (by kernel_rfl)
set_option maxRecDepth 100000 in
theorem cellsU : Tryz.prog.cellsOf 5 = 1 := by kernel_rfl
set_option maxRecDepth 100000 in
theorem bytesU : 1 ≤ Tryz.prog.bytesOf 5 := Nat.le_of_ble_eq_true (by kernel_rfl)
set_option maxRecDepth 100000 in
theorem uOps : Tryz.prog.underlying 22 = some (.slice 39) := by kernel_rfl
set_option maxRecDepth 100000 in
theorem uKind : Tryz.prog.underlying 36 = some (.int .i64) := by kernel_rfl
set_option maxRecDepth 100000 in
theorem uInt : Tryz.prog.underlying 3 = some (.int .i64) := by kernel_rfl
theorem reach_eq : reachBytes = 140737488351232 := rfl
theorem Cells.lt {w : World} {b o : Nat} {cs : List Value} (h : Cells w b o cs) (h0 : 0 < cs.length) : b < w.heap.size := by
  have := h 0 h0
  rw [List.getElem?_eq_getElem h0] at this
  unfold World.cell? at this
  by_cases q : b < w.heap.size
  · exact q
  · exfalso
    revert this
    simp [Array.getElem?_eq_none (show w.heap.size ≤ b by omega)]
section
variable {W : World} {f g : Nat} {cs : List Value} {u : Value}
theorem int_of {t : TypeId} (hu : Tryz.prog.underlying t = some (.int .i64)) (h : TZ Tryz.prog W reachBytes g t [u]) : ∃ n : Int, u = I n ∧ n ≤ 9223372036854775807 := by
  obtain ⟨n, e, hz⟩ := tz_int hu h
  simp only [List.cons.injEq, and_true] at e
  refine ⟨n, e, ?_⟩
  have e1 : IntKind.i64.min = -9223372036854775808 := by decide
  have e2 : IntKind.i64.max = 9223372036854775807 := by decide
  simp only [Lit.wf, e1, e2, decide_eq_true_eq, Bool.and_eq_true] at hz
  exact hz.2
theorem ar_of {α : Type} {F : α → List Value} {k : Nat} {t e : TypeId} (hk : ∀ x, (F x).length = k) (hk0 : 0 < k) (hu : Tryz.prog.underlying t = some (.slice e)) (hc : Tryz.prog.cellsOf e = k) (hby : 1 ≤ Tryz.prog.bytesOf e)
    {Q : α → Prop} (hF : ∀ g ds, TZ Tryz.prog W reachBytes g e ds → ∃ x, ds = F x ∧ Q x) (h : TZ Tryz.prog W reachBytes g t [u]) :
    ∃ xs : List α, Ar F k (fun b => b < W.heap.size) W u xs ∧ ∀ x ∈ xs, Q x := by
  rcases tz_slice hu h with e | ⟨a, len, cap, gg, e, hgg, hlc, hcm, hbb, hel⟩
  · simp only [List.cons.injEq, and_true] at e
    exact ⟨[], by rw [e]; exact Ar.nil, by simp⟩
  · simp only [List.cons.injEq, and_true] at e
    rw [hc] at hel
    rw [reach_eq] at hbb
    have hlen : len ≤ 140737488351232 := Nat.le_trans (Nat.le_mul_of_pos_right len hby) hbb
    obtain ⟨xs, hl, hxs⟩ := choose_list len (fun i (x : α) => Q x ∧ ∃ b o, a.add (i * k) = ⟨b, o, none⟩ ∧ Cells W b o (F x)) (fun i hi => by
      obtain ⟨ds, h1, h2⟩ := hel i hi
      obtain ⟨b, o, e1, e2, e3⟩ := cells_in h1 hk0
      obtain ⟨x, e4, hq⟩ := hF _ _ h2
      exact ⟨x, hq, b, o, e1, by rw [e4] at e3; exact e3⟩)
    refine ⟨xs, ⟨by omega, ?_⟩, fun x hx => ?_⟩
    · by_cases h0 : len = 0
      · have : xs = [] := List.eq_nil_of_length_eq_zero (by omega)
        subst this
        exact .inl ⟨some a, cap, by rw [e, h0], rfl⟩
      · obtain ⟨_, b, o, e1, ec⟩ := hxs 0 (by omega)
        have ea : a = ⟨b, o, none⟩ := by
          obtain ⟨ab, ao, asp⟩ := a
          simp [Addr.add] at e1 ⊢
          exact e1
        subst ea
        refine .inr ⟨b, o, cap, by rw [e, hl], by omega, Cells.lt ec (by rw [hk]; exact hk0), by omega, fun j hj => ?_⟩
        obtain ⟨_, b', o', e1, e2⟩ := hxs j hj
        rw [add_mk] at e1
        cases e1
        exact e2
    · obtain ⟨j, hj, rfl⟩ := List.getElem_of_mem hx
      exact (hxs j hj).1
theorem bytes_of (h : TZ Tryz.prog W reachBytes g 37 [u]) : ∃ bs : List Int, Ar bC 1 (fun b => b < W.heap.size) W u bs ∧ By bs := by
  obtain ⟨bs, h1, h2⟩ := ar_of (F := bC) (Q := fun x => 0 ≤ x ∧ x ≤ 255) bC_len (by decide) uSB cellsU bytesU (fun g ds h => by
    obtain ⟨n, e, hz⟩ := tz_int uU8 h
    refine ⟨n, e, ?_⟩
    have e1 : IntKind.u8.min = 0 := by decide
    have e2 : IntKind.u8.max = 255 := by decide
    simp only [Lit.wf, e1, e2, decide_eq_true_eq, Bool.and_eq_true] at hz
    exact hz) h
  exact ⟨bs, h1, h2⟩
theorem scr_of {v : Value} (h : TZ Tryz.prog W reachBytes f 22 v.cells.toList) (hv : ∃ a n c, v = .slice a n c) : ∃ xs, Scr W v xs := by
  obtain ⟨a0, n0, c0, rfl⟩ := hv
  obtain ⟨its, h1, h2⟩ := ar_of (F := opC) (Q := fun p => Ar bC 1 (fun b => b < W.heap.size) W p.2 p.1.bs ∧ By p.1.bs ∧ p.1.after ≤ 9223372036854775807) opC_len (by decide) uOps cellsOp bytesOp (fun g ds h => by
    obtain ⟨hl, hv⟩ := leafTs_ok 4 39 _ leafOp g ds h
    have hlen : ds.length = 4 := hl
    obtain ⟨_, v0, e0, _, _, t0⟩ := hv 0 36 rfl
    obtain ⟨_, v1, e1, _, _, t1⟩ := hv 1 37 rfl
    obtain ⟨_, v2, e2, _, _, t2⟩ := hv 2 3 rfl
    obtain ⟨_, v3, e3, _, _, t3⟩ := hv 3 3 rfl
    obtain ⟨n0, q0, _⟩ := int_of uKind t0
    obtain ⟨bs, b1, b2⟩ := bytes_of t1
    obtain ⟨n2, q2, z2⟩ := int_of uInt t2
    obtain ⟨n3, q3, _⟩ := int_of uInt t3
    subst q0 q2 q3
    refine ⟨(⟨n0, bs, n2, n3⟩, v1), ?_, b1, b2, z2⟩
    match ds, hlen with
    | [c0, c1, c2, c3], _ =>
      simp only [List.getElem?_cons_zero, List.getElem?_cons_succ, Option.some.injEq] at e0 e1 e2 e3
      subst e0 e1 e2 e3
      rfl) (u := .slice a0 n0 c0) (by simpa [Value.cells] using h)
  exact ⟨_, its, rfl, h1, h2⟩
end
section
variable {W w : World} {v : Value} {xs : List Op} {K : Value → World → Prop}
theorem Scr.ln {w2 : World} (h : Scr W v xs) (hK : K (I xs.length) w2) : lnS v K w2 := by
  obtain ⟨its, h1, h2, _⟩ := h
  refine h2.ln ?_
  have : its.length = xs.length := by rw [← h1, List.length_map]
  rw [this]; exact hK
theorem small_ok (hs : Scr W v xs) (hk : Kp Emp W w) (hK : ∀ r, (r = true → xs.length ≤ 65536 ∧ ∀ x ∈ xs, x.bs.length ≤ 65536) → K (.bool r) w) : cl Tryz.prog 17 #[v] K w := by
  obtain ⟨its, h1, h2, h3⟩ := hs
  have hil : its.length = xs.length := by rw [← h1, List.length_map]
  have hlen := h2.len
  have h2' := h2.kp' hk
  apply c17
  unfold s17_p4
  refine h2'.ln ?_
  try simp only [e_fd, e_nck, e_pkt, e_pkf, e_gdtt, e_gdtf, e_gdft, e_gdff, e_ift, e_iff, e_not, e_ln, e_lnT, e_cp, e_cvi, e_ex20, e_ex21, e_ex30, e_ex31, e_ex32, e_add, e_sub, e_mul, e_quo, e_rem, e_and, e_or, e_xor, e_shl, e_shr, e_eql, e_neq, e_lss, e_leq, e_gtr, e_geq, e_beq, e_bne, e_peq1, e_peq2, e_pne1, e_pne2, e_zeq1, e_zeq2, e_zne1, e_zne2, e_feq1, e_fne1, e_feq2, e_fne2, e_seq, e_sne, e_ta1, e_ta2, Nat.zero_add, Nat.add_zero, Bool.not_true, Bool.not_false]
  by_cases hb : (65536 : Int) < ((its.length : Nat) : Int)
  · simp only [hb, decide_true, e_fd, e_nck, e_pkt, e_pkf, e_gdtt, e_gdtf, e_gdft, e_gdff, e_ift, e_iff, e_not, e_ln, e_lnT, e_cp, e_cvi, e_ex20, e_ex21, e_ex30, e_ex31, e_ex32, e_add, e_sub, e_mul, e_quo, e_rem, e_and, e_or, e_xor, e_shl, e_shr, e_eql, e_neq, e_lss, e_leq, e_gtr, e_geq, e_beq, e_bne, e_peq1, e_peq2, e_pne1, e_pne2, e_zeq1, e_zeq2, e_zne1, e_zne2, e_feq1, e_fne1, e_feq2, e_fne2, e_seq, e_sne, e_ta1, e_ta2, Nat.zero_add, Nat.add_zero, Bool.not_true, Bool.not_false]
    exact hK false (fun q => by cases q)
  · simp only [hb, decide_false, e_fd, e_nck, e_pkt, e_pkf, e_gdtt, e_gdtf, e_gdft, e_gdff, e_ift, e_iff, e_not, e_ln, e_lnT, e_cp, e_cvi, e_ex20, e_ex21, e_ex30, e_ex31, e_ex32, e_add, e_sub, e_mul, e_quo, e_rem, e_and, e_or, e_xor, e_shl, e_shr, e_eql, e_neq, e_lss, e_leq, e_gtr, e_geq, e_beq, e_bne, e_peq1, e_peq2, e_pne1, e_pne2, e_zeq1, e_zeq2, e_zne1, e_zne2, e_feq1, e_fne1, e_feq2, e_fne2, e_seq, e_sne, e_ta1, e_ta2, Nat.zero_add, Nat.add_zero, Bool.not_true, Bool.not_false]
    unfold s17_p3
    refine loop_n its.length (fun i l w' => ∃ n : Int, w' = w ∧ l = [v, I n, I (i : Nat)] ∧ 0 ≤ n ∧ n ≤ 65536 ∧ ∀ p ∈ its.take i, p.1.bs.length ≤ 65536) ⟨((its.length : Nat) : Int), rfl, rfl, by omega, by omega, fun p hp => by simp at hp⟩ ?_ ?_
    · rintro i l w' hi ⟨n, rfl, rfl, n0, n1, hall⟩ B hB
      rw [s17_p3_Fe]
      unfold s17_p2
      refine h2'.ln ?_
      simp only [dlt hi, e_fd, e_nck, e_pkt, e_pkf, e_gdtt, e_gdtf, e_gdft, e_gdff, e_ift, e_iff, e_not, e_ln, e_lnT, e_cp, e_cvi, e_ex20, e_ex21, e_ex30, e_ex31, e_ex32, e_add, e_sub, e_mul, e_quo, e_rem, e_and, e_or, e_xor, e_shl, e_shr, e_eql, e_neq, e_lss, e_leq, e_gtr, e_geq, e_beq, e_bne, e_peq1, e_peq2, e_pne1, e_pne2, e_zeq1, e_zeq2, e_zne1, e_zne2, e_feq1, e_fne1, e_feq2, e_fne2, e_seq, e_sne, e_ta1, e_ta2, Nat.zero_add, Nat.add_zero, Bool.not_true, Bool.not_false]
      have hbl := (h3 _ (List.getElem_mem hi)).1.len
      refine h2'.ix hi fun b o _ hcc => ?_
      try simp only [e_fd, e_nck, e_pkt, e_pkf, e_gdtt, e_gdtf, e_gdft, e_gdff, e_ift, e_iff, e_not, e_ln, e_lnT, e_cp, e_cvi, e_ex20, e_ex21, e_ex30, e_ex31, e_ex32, e_add, e_sub, e_mul, e_quo, e_rem, e_and, e_or, e_xor, e_shl, e_shr, e_eql, e_neq, e_lss, e_leq, e_gtr, e_geq, e_beq, e_bne, e_peq1, e_peq2, e_pne1, e_pne2, e_zeq1, e_zeq2, e_zne1, e_zne2, e_feq1, e_fne1, e_feq2, e_fne2, e_seq, e_sne, e_ta1, e_ta2, Nat.zero_add, Nat.add_zero, Bool.not_true, Bool.not_false]
      refine hcc.ld1 (j := 1) rfl ?_
      refine ((h3 _ (List.getElem_mem hi)).1.kp' hk).ln ?_
      try simp only [e_fd, e_nck, e_pkt, e_pkf, e_gdtt, e_gdtf, e_gdft, e_gdff, e_ift, e_iff, e_not, e_ln, e_lnT, e_cp, e_cvi, e_ex20, e_ex21, e_ex30, e_ex31, e_ex32, e_add, e_sub, e_mul, e_quo, e_rem, e_and, e_or, e_xor, e_shl, e_shr, e_eql, e_neq, e_lss, e_leq, e_gtr, e_geq, e_beq, e_bne, e_peq1, e_peq2, e_pne1, e_pne2, e_zeq1, e_zeq2, e_zne1, e_zne2, e_feq1, e_fne1, e_feq2, e_fne2, e_seq, e_sne, e_ta1, e_ta2, Nat.zero_add, Nat.add_zero, Bool.not_true, Bool.not_false]
      rw [wrap64_id (by omega) (by omega)]
      by_cases h5 : (65536 : Int) < n + ((its[i].1.bs.length : Nat) : Int)
      · simp only [h5, decide_true, e_fd, e_nck, e_pkt, e_pkf, e_gdtt, e_gdtf, e_gdft, e_gdff, e_ift, e_iff, e_not, e_ln, e_lnT, e_cp, e_cvi, e_ex20, e_ex21, e_ex30, e_ex31, e_ex32, e_add, e_sub, e_mul, e_quo, e_rem, e_and, e_or, e_xor, e_shl, e_shr, e_eql, e_neq, e_lss, e_leq, e_gtr, e_geq, e_beq, e_bne, e_peq1, e_peq2, e_pne1, e_pne2, e_zeq1, e_zeq2, e_zne1, e_zne2, e_feq1, e_fne1, e_feq2, e_fne2, e_seq, e_sne, e_ta1, e_ta2, Nat.zero_add, Nat.add_zero, Bool.not_true, Bool.not_false]
        exact hK false (fun q => by cases q)
      · simp only [h5, decide_false, e_fd, e_nck, e_pkt, e_pkf, e_gdtt, e_gdtf, e_gdft, e_gdff, e_ift, e_iff, e_not, e_ln, e_lnT, e_cp, e_cvi, e_ex20, e_ex21, e_ex30, e_ex31, e_ex32, e_add, e_sub, e_mul, e_quo, e_rem, e_and, e_or, e_xor, e_shl, e_shr, e_eql, e_neq, e_lss, e_leq, e_gtr, e_geq, e_beq, e_bne, e_peq1, e_peq2, e_pne1, e_pne2, e_zeq1, e_zeq2, e_zne1, e_zne2, e_feq1, e_fne1, e_feq2, e_fne2, e_seq, e_sne, e_ta1, e_ta2, Nat.zero_add, Nat.add_zero, Bool.not_true, Bool.not_false]
        rw [inc i (by omega)]
        refine hB _ _ ⟨_, rfl, rfl, by omega, by omega, fun p hp => ?_⟩
        rw [List.take_succ_eq_append_getElem hi] at hp
        rcases List.mem_append.1 hp with q | q
        · exact hall p q
        · rw [List.mem_singleton.1 q]; omega
    · rintro l w' ⟨n, rfl, rfl, n0, n1, hall⟩ B
      rw [s17_p3_Fe]
      unfold s17_p2
      refine h2'.ln ?_
      simp only [dnlt, e_fd, e_nck, e_pkt, e_pkf, e_gdtt, e_gdtf, e_gdft, e_gdff, e_ift, e_iff, e_not, e_ln, e_lnT, e_cp, e_cvi, e_ex20, e_ex21, e_ex30, e_ex31, e_ex32, e_add, e_sub, e_mul, e_quo, e_rem, e_and, e_or, e_xor, e_shl, e_shr, e_eql, e_neq, e_lss, e_leq, e_gtr, e_geq, e_beq, e_bne, e_peq1, e_peq2, e_pne1, e_pne2, e_zeq1, e_zeq2, e_zne1, e_zne2, e_feq1, e_fne1, e_feq2, e_fne2, e_seq, e_sne, e_ta1, e_ta2, Nat.zero_add, Nat.add_zero, Bool.not_true, Bool.not_false]
      unfold s17_p1
      rw [List.take_length] at hall
      refine hK true fun _ => ⟨by omega, fun x hx => ?_⟩
      rw [← h1] at hx
      obtain ⟨p, hp, rfl⟩ := List.mem_map.1 hx
      exact hall p hp
end
end Go.Proofs.Qxb6500896aGreat
