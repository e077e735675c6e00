import Derived.Test.Qxb6500895aD4
namespace Go.Proofs.Qxb6500895a
open Go.Sh Go.RowKit
set_option linter.unusedVariables false
set_option linter.unusedSimpArgs false

/-! ### sectors of the platter -/
theorem sec_get (L : List Int) (i k : Nat) : (sec L i)[k]? = if k < 16 then L[16 * i + k]? else none := by
  unfold sec
  rw [List.getElem?_take]
  split
  · rw [List.getElem?_drop]
  · rfl
theorem sec_put {L xs : List Int} {i n : Nat} (hL : L.length = 192) (hi : i < 12) (hn : xs.length = n) (hn16 : n ≤ 16) (j : Nat) (hj : j < 12) :
    sec (L.take (16 * i) ++ (xs ++ L.drop (16 * i + n))) j = if j = i then xs ++ (sec L i).drop n else sec L j := by
  apply List.ext_getElem?
  intro k
  rw [sec_get]
  have hget : ∀ p, (L.take (16 * i) ++ (xs ++ L.drop (16 * i + n)))[p]? = if p < 16 * i then L[p]? else if p < 16 * i + n then xs[p - 16 * i]? else L[p]? := by
    intro p
    have hlt : (L.take (16 * i)).length = 16 * i := by rw [List.length_take]; omega
    by_cases h1 : p < 16 * i
    · rw [if_pos h1, List.getElem?_append_left (by omega), List.getElem?_take_of_lt h1]
    · rw [if_neg h1, List.getElem?_append_right (by omega), hlt]
      by_cases h2 : p < 16 * i + n
      · rw [if_pos h2, List.getElem?_append_left (by omega)]
      · rw [if_neg h2, List.getElem?_append_right (by omega), List.getElem?_drop]
        congr 1; omega
  by_cases e : j = i
  · subst e
    rw [if_pos rfl]
    by_cases hk : k < 16
    · rw [if_pos hk, hget, if_neg (by omega)]
      by_cases h2 : k < n
      · rw [if_pos (by omega), List.getElem?_append_left (by omega)]; congr 1; omega
      · rw [if_neg (by omega), List.getElem?_append_right (by omega), List.getElem?_drop, sec_get, if_pos (by omega)]; congr 1; omega
    · rw [if_neg hk, List.getElem?_eq_none]
      rw [List.length_append, List.length_drop]
      unfold sec
      rw [List.length_take]; omega
  · rw [if_neg e, sec_get]
    by_cases hk : k < 16
    · rw [if_pos hk, if_pos hk, hget]
      by_cases h1 : 16 * j + k < 16 * i
      · rw [if_pos h1]
      · rw [if_neg h1, if_neg (by omega)]
    · rw [if_neg hk, if_neg hk]

section
variable {w : World} {d : Nat} {m : Mem} {s : DS} {K : Value → World → Prop}

theorem plat_cp {v : Value} {xs : List Int} {i n cap : Nat} (h : Dk w d m s) (hi : i < 12) (hv : Vs U8 w v xs) (hn : xs.length = n) (hn16 : n ≤ 16) (hb : By xs)
    (hK : ∀ w', Dk w' d m { s with flu := upd s.flu i (xs ++ (s.flu i).drop n) } → Kp (fun b => b = m.pb) w w' → w'.heap.size = w.heap.size → K (I n) w') : cpq 1 (.slice (some ⟨m.pb, 16 * i, none⟩) n cap) v K w := by
  obtain ⟨L, hL1, hL2, hL3⟩ := h.plat
  refine cp_r hL2 hv hn (by rw [List.length_map]; omega) (fun _ => rfl) fun w1 r1 hk1 hz1 => ?_
  refine hK w1 (h.setP hk1 (L := L.take (16 * i) ++ (xs ++ L.drop (16 * i + n))) ?_ ?_ ?_ ?_) hk1 hz1
  · rw [List.map_append, List.map_append, List.map_take, List.map_drop]; exact r1
  · rw [List.length_append, List.length_append, List.length_take, List.length_drop]; omega
  · intro j hj
    rw [sec_put hL1 hi hn hn16 j hj]
    unfold upd
    by_cases e : j = i
    · subst e; rw [if_pos rfl, if_pos rfl, hL3 j hj]
    · rw [if_neg e, if_neg e, hL3 j hj]
  · intro j hj
    unfold upd
    by_cases e : j = i
    · subst e
      rw [if_pos rfl]
      have := h.fsec j hj
      refine ⟨by rw [List.length_append, List.length_drop, this.1]; omega, fun x hx => ?_⟩
      rcases List.mem_append.1 hx with q | q
      · exact hb x q
      · exact this.2 x (List.mem_of_mem_drop q)
    · rw [if_neg e]; exact h.fsec j hj

theorem pslice {i n : Nat} (hi : i < 12) (hn : n ≤ 16) (b : Nat) {a c : Int} (ha : a = ((16 * i : Nat) : Int)) (hc : c = ((16 * i + n : Nat) : Int)) (hK : K (.slice (some ⟨b, 16 * i, none⟩) n (192 - 16 * i)) w) : sls 1 (.slice (some ⟨b, 0, none⟩) 192 192) (some (I a)) (some (I c)) K w := by
  subst ha hc
  refine ⟨⟨by omega, by omega, by omega⟩, ?_⟩
  have e0 : (((16 * i : Nat) : Int)).toNat = 16 * i := by omega
  have e1 : (((16 * i + n : Nat) : Int)).toNat = 16 * i + n := by omega
  rw [e0, e1, if_neg (by omega), Option.map_some, add_mk, Nat.zero_add, Nat.mul_one, Nat.add_sub_cancel_left]
  exact hK

theorem span_ok {i : Nat} (hi : i < 12) (hK : ∀ w', Kp (fun _ => False) w w' → K (.tuple #[I ((16 * i : Nat) : Int), I ((16 * i + 16 : Nat) : Int)]) w') : cl Try.prog 55 #[.agg #[I 16, I 12], I i] K w := by
  apply c55
  unfold s55_p3
  refine nw_r fun w1 r1 hk1 hz1 => ?_
  simp only [e_fd, e_nck, e_pkt, e_pkf, e_gdtt, e_gdtf, e_gdft, e_gdff, e_ift, e_iff, e_not, e_ln, e_lnT, e_cp, e_cvi, e_ex20, e_ex21, e_ex30, e_ex31, e_ex32, e_add, e_sub, e_mul, e_quo, e_rem, e_and, e_or, e_xor, e_shl, e_shr, e_eql, e_neq, e_lss, e_leq, e_gtr, e_geq, e_beq, e_bne, e_peq1, e_peq2, e_pne1, e_pne2, e_zeq1, e_zeq2, e_zne1, e_zne2, e_feq1, e_fne1, e_feq2, e_fne2, e_seq, e_sne, e_ta1, e_ta2, Nat.zero_add, Nat.add_zero, Bool.not_true, Bool.not_false]
  refine ld1_r r1 rfl ?_
  simp only [e_fd, e_nck, e_pkt, e_pkf, e_gdtt, e_gdtf, e_gdft, e_gdff, e_ift, e_iff, e_not, e_ln, e_lnT, e_cp, e_cvi, e_ex20, e_ex21, e_ex30, e_ex31, e_ex32, e_add, e_sub, e_mul, e_quo, e_rem, e_and, e_or, e_xor, e_shl, e_shr, e_eql, e_neq, e_lss, e_leq, e_gtr, e_geq, e_beq, e_bne, e_peq1, e_peq2, e_pne1, e_pne2, e_zeq1, e_zeq2, e_zne1, e_zne2, e_feq1, e_fne1, e_feq2, e_fne2, e_seq, e_sne, e_ta1, e_ta2, Nat.zero_add, Nat.add_zero, Bool.not_true, Bool.not_false]
  rw [wrap64_id (by omega) (by omega)]
  unfold s55_p2 s55_p2_d
  simp only [e_fd, e_nck, e_pkt, e_pkf, e_gdtt, e_gdtf, e_gdft, e_gdff, e_ift, e_iff, e_not, e_ln, e_lnT, e_cp, e_cvi, e_ex20, e_ex21, e_ex30, e_ex31, e_ex32, e_add, e_sub, e_mul, e_quo, e_rem, e_and, e_or, e_xor, e_shl, e_shr, e_eql, e_neq, e_lss, e_leq, e_gtr, e_geq, e_beq, e_bne, e_peq1, e_peq2, e_pne1, e_pne2, e_zeq1, e_zeq2, e_zne1, e_zne2, e_feq1, e_fne1, e_feq2, e_fne2, e_seq, e_sne, e_ta1, e_ta2, Nat.zero_add, Nat.add_zero, Bool.not_true, Bool.not_false]
  refine ld1_r r1.drw rfl ?_
  simp only [e_fd, e_nck, e_pkt, e_pkf, e_gdtt, e_gdtf, e_gdft, e_gdff, e_ift, e_iff, e_not, e_ln, e_lnT, e_cp, e_cvi, e_ex20, e_ex21, e_ex30, e_ex31, e_ex32, e_add, e_sub, e_mul, e_quo, e_rem, e_and, e_or, e_xor, e_shl, e_shr, e_eql, e_neq, e_lss, e_leq, e_gtr, e_geq, e_beq, e_bne, e_peq1, e_peq2, e_pne1, e_pne2, e_zeq1, e_zeq2, e_zne1, e_zne2, e_feq1, e_fne1, e_feq2, e_fne2, e_seq, e_sne, e_ta1, e_ta2, Nat.zero_add, Nat.add_zero, Bool.not_true, Bool.not_false]
  have e1 : ((i : Int) * 16) = ((16 * i : Nat) : Int) := by omega
  have e2 : IntKind.i64.wrap ((i : Int) * 16 + 16) = ((16 * i + 16 : Nat) : Int) := by rw [wrap64_id (by omega) (by omega)]; omega
  have hB := Below.refl (drw w1).heap.size (drw w1)
  have hk := hK (drw w1) (hk1.trans kp_drw)
  rw [e2, e1]
  unfold s55_p1
  exact ⟨⟨hB, hB, ⟨hB, hk⟩, hB, hk⟩, hB, ⟨hB, ⟨hB, hk⟩, hB, hk⟩, hB, hB, hk⟩

theorem holds_ok {i : Int} (hK : ∀ w', Kp (fun _ => False) w w' → K (.bool (decide (0 ≤ i ∧ i < 12))) w') : cl Try.prog 67 #[.agg #[I 16, I 12], I i] K w := by
  apply c67
  unfold s67_p1
  refine nw_r fun w1 r1 hk1 hz1 => ?_
  simp only [e_fd, e_nck, e_pkt, e_pkf, e_gdtt, e_gdtf, e_gdft, e_gdff, e_ift, e_iff, e_not, e_ln, e_lnT, e_cp, e_cvi, e_ex20, e_ex21, e_ex30, e_ex31, e_ex32, e_add, e_sub, e_mul, e_quo, e_rem, e_and, e_or, e_xor, e_shl, e_shr, e_eql, e_neq, e_lss, e_leq, e_gtr, e_geq, e_beq, e_bne, e_peq1, e_peq2, e_pne1, e_pne2, e_zeq1, e_zeq2, e_zne1, e_zne2, e_feq1, e_fne1, e_feq2, e_fne2, e_seq, e_sne, e_ta1, e_ta2, Nat.zero_add, Nat.add_zero, Bool.not_true, Bool.not_false]
  have hK := hK w1 hk1
  by_cases h0 : 0 ≤ i
  · simp only [h0, decide_true, e_fd, e_nck, e_pkt, e_pkf, e_gdtt, e_gdtf, e_gdft, e_gdff, e_ift, e_iff, e_not, e_ln, e_lnT, e_cp, e_cvi, e_ex20, e_ex21, e_ex30, e_ex31, e_ex32, e_add, e_sub, e_mul, e_quo, e_rem, e_and, e_or, e_xor, e_shl, e_shr, e_eql, e_neq, e_lss, e_leq, e_gtr, e_geq, e_beq, e_bne, e_peq1, e_peq2, e_pne1, e_pne2, e_zeq1, e_zeq2, e_zne1, e_zne2, e_feq1, e_fne1, e_feq2, e_fne2, e_seq, e_sne, e_ta1, e_ta2, Nat.zero_add, Nat.add_zero, Bool.not_true, Bool.not_false]
    refine ld1_r r1 rfl ?_
    simp only [e_fd, e_nck, e_pkt, e_pkf, e_gdtt, e_gdtf, e_gdft, e_gdff, e_ift, e_iff, e_not, e_ln, e_lnT, e_cp, e_cvi, e_ex20, e_ex21, e_ex30, e_ex31, e_ex32, e_add, e_sub, e_mul, e_quo, e_rem, e_and, e_or, e_xor, e_shl, e_shr, e_eql, e_neq, e_lss, e_leq, e_gtr, e_geq, e_beq, e_bne, e_peq1, e_peq2, e_pne1, e_pne2, e_zeq1, e_zeq2, e_zne1, e_zne2, e_feq1, e_fne1, e_feq2, e_fne2, e_seq, e_sne, e_ta1, e_ta2, Nat.zero_add, Nat.add_zero, Bool.not_true, Bool.not_false]
    simpa [h0] using hK
  · simp only [h0, decide_false, e_fd, e_nck, e_pkt, e_pkf, e_gdtt, e_gdtf, e_gdft, e_gdff, e_ift, e_iff, e_not, e_ln, e_lnT, e_cp, e_cvi, e_ex20, e_ex21, e_ex30, e_ex31, e_ex32, e_add, e_sub, e_mul, e_quo, e_rem, e_and, e_or, e_xor, e_shl, e_shr, e_eql, e_neq, e_lss, e_leq, e_gtr, e_geq, e_beq, e_bne, e_peq1, e_peq2, e_pne1, e_pne2, e_zeq1, e_zeq2, e_zne1, e_zne2, e_feq1, e_fne1, e_feq2, e_fne2, e_seq, e_sne, e_ta1, e_ta2, Nat.zero_add, Nat.add_zero, Bool.not_true, Bool.not_false]
    simpa [h0] using hK

/-- an error, and its code -/
def Er (w : World) (v : Value) (c : Int) : Prop := (v = .nilIface ∧ c = 0) ∨ (c ≠ 0 ∧ ∃ b r, v = .iface 94 (.pointer (some ⟨b, 0, none⟩)) ∧ Row w b 96 (I c :: r))
theorem codeOf_ok {v : Value} {c : Int} (h : Er w v c) (hK : K (I c) w) : cl Try.prog 31 #[v] K w := by
  rcases h with ⟨rfl, rfl⟩ | ⟨_, b, r, rfl, hr⟩
  · exact codeOf_nil hK
  · exact codeOf_err hr hK
theorem Er.neq {v : Value} {c : Int} (h : Er w v c) (hK : K (.bool (decide (c ≠ 0))) w) : boF Try.prog true .neq v .nilIface K w := by
  rcases h with ⟨rfl, rfl⟩ | ⟨hc, b, r, rfl, hr⟩
  · rw [e_fne1]; exact hK
  · rw [e_fne2]; simpa [hc] using hK
theorem er0 : Er w .nilIface 0 := .inl ⟨rfl, rfl⟩

def chkC (s : DS) (i n : Int) : Int := if s.off = true then 4 else if ¬ (0 ≤ i ∧ i < 12) then 1 else if n ≠ 16 then 2 else 0

theorem check_ok {i n : Int} {c : ByteArray} (h : Dk w d m s) (hK : ∀ w' v, Kp (fun _ => False) w w' → Er w' v (chkC s i n) → K v w') : cl Try.prog 60 #[.pointer (some ⟨d, 0, none⟩), .string c, I i, I n] K w := by
  apply c60
  unfold s60_p2
  simp only [e_fd, e_nck, e_pkt, e_pkf, e_gdtt, e_gdtf, e_gdft, e_gdff, e_ift, e_iff, e_not, e_ln, e_lnT, e_cp, e_cvi, e_ex20, e_ex21, e_ex30, e_ex31, e_ex32, e_add, e_sub, e_mul, e_quo, e_rem, e_and, e_or, e_xor, e_shl, e_shr, e_eql, e_neq, e_lss, e_leq, e_gtr, e_geq, e_beq, e_bne, e_peq1, e_peq2, e_pne1, e_pne2, e_zeq1, e_zeq2, e_zne1, e_zne2, e_feq1, e_fne1, e_feq2, e_fne2, e_seq, e_sne, e_ta1, e_ta2, Nat.zero_add, Nat.add_zero, Bool.not_true, Bool.not_false]
  refine ld1_r h.disk rfl ?_
  have bad : ∀ (w1 : World) (e : Int), e ≠ 0 → chkC s i n = e → Kp (fun _ => False) w w1 → s60_p1 K (.string c) (I i) (I n) (I e) w1 := by
    intro w1 e he hc hk1
    unfold s60_p1
    simp only [e_fd, e_nck, e_pkt, e_pkf, e_gdtt, e_gdtf, e_gdft, e_gdff, e_ift, e_iff, e_not, e_ln, e_lnT, e_cp, e_cvi, e_ex20, e_ex21, e_ex30, e_ex31, e_ex32, e_add, e_sub, e_mul, e_quo, e_rem, e_and, e_or, e_xor, e_shl, e_shr, e_eql, e_neq, e_lss, e_leq, e_gtr, e_geq, e_beq, e_bne, e_peq1, e_peq2, e_pne1, e_pne2, e_zeq1, e_zeq2, e_zne1, e_zne2, e_feq1, e_fne1, e_feq2, e_fne2, e_seq, e_sne, e_ta1, e_ta2, Nat.zero_add, Nat.add_zero, Bool.not_true, Bool.not_false]
    have : (e == 0) = false := by rw [beq_eq_false_iff_ne]; exact he
    simp only [this, e_fd, e_nck, e_pkt, e_pkf, e_gdtt, e_gdtf, e_gdft, e_gdff, e_ift, e_iff, e_not, e_ln, e_lnT, e_cp, e_cvi, e_ex20, e_ex21, e_ex30, e_ex31, e_ex32, e_add, e_sub, e_mul, e_quo, e_rem, e_and, e_or, e_xor, e_shl, e_shr, e_eql, e_neq, e_lss, e_leq, e_gtr, e_geq, e_beq, e_bne, e_peq1, e_peq2, e_pne1, e_pne2, e_zeq1, e_zeq2, e_zne1, e_zne2, e_feq1, e_fne1, e_feq2, e_fne2, e_seq, e_sne, e_ta1, e_ta2, Nat.zero_add, Nat.add_zero, Bool.not_true, Bool.not_false]
    refine bdq_r rfl ?_
    refine nw_r fun w2 r2 hk2 hz2 => ?_
    refine hK w2 _ (hk1.trans hk2) ?_
    rw [hc]
    exact .inr ⟨he, _, _, rfl, r2⟩
  cases ho : s.off with
  | true =>
    simp only [e_fd, e_nck, e_pkt, e_pkf, e_gdtt, e_gdtf, e_gdft, e_gdff, e_ift, e_iff, e_not, e_ln, e_lnT, e_cp, e_cvi, e_ex20, e_ex21, e_ex30, e_ex31, e_ex32, e_add, e_sub, e_mul, e_quo, e_rem, e_and, e_or, e_xor, e_shl, e_shr, e_eql, e_neq, e_lss, e_leq, e_gtr, e_geq, e_beq, e_bne, e_peq1, e_peq2, e_pne1, e_pne2, e_zeq1, e_zeq2, e_zne1, e_zne2, e_feq1, e_fne1, e_feq2, e_fne2, e_seq, e_sne, e_ta1, e_ta2, Nat.zero_add, Nat.add_zero, Bool.not_true, Bool.not_false]
    exact bad w 4 (by decide) (by unfold chkC; rw [if_pos ho]) (Kp.refl _ _)
  | false =>
    simp only [e_fd, e_nck, e_pkt, e_pkf, e_gdtt, e_gdtf, e_gdft, e_gdff, e_ift, e_iff, e_not, e_ln, e_lnT, e_cp, e_cvi, e_ex20, e_ex21, e_ex30, e_ex31, e_ex32, e_add, e_sub, e_mul, e_quo, e_rem, e_and, e_or, e_xor, e_shl, e_shr, e_eql, e_neq, e_lss, e_leq, e_gtr, e_geq, e_beq, e_bne, e_peq1, e_peq2, e_pne1, e_pne2, e_zeq1, e_zeq2, e_zne1, e_zne2, e_feq1, e_fne1, e_feq2, e_fne2, e_seq, e_sne, e_ta1, e_ta2, Nat.zero_add, Nat.add_zero, Bool.not_true, Bool.not_false]
    refine ldn_r h.disk (show 0 + 2 ≤ 17 by decide) ?_
    refine holds_ok fun w1 hk1 => ?_
    simp only [e_fd, e_nck, e_pkt, e_pkf, e_gdtt, e_gdtf, e_gdft, e_gdff, e_ift, e_iff, e_not, e_ln, e_lnT, e_cp, e_cvi, e_ex20, e_ex21, e_ex30, e_ex31, e_ex32, e_add, e_sub, e_mul, e_quo, e_rem, e_and, e_or, e_xor, e_shl, e_shr, e_eql, e_neq, e_lss, e_leq, e_gtr, e_geq, e_beq, e_bne, e_peq1, e_peq2, e_pne1, e_pne2, e_zeq1, e_zeq2, e_zne1, e_zne2, e_feq1, e_fne1, e_feq2, e_fne2, e_seq, e_sne, e_ta1, e_ta2, Nat.zero_add, Nat.add_zero, Bool.not_true, Bool.not_false]
    have hd1 := hk1.row' h.disk
    by_cases hi : 0 ≤ i ∧ i < 12
    · rw [decide_eq_true hi]
      simp only [e_fd, e_nck, e_pkt, e_pkf, e_gdtt, e_gdtf, e_gdft, e_gdff, e_ift, e_iff, e_not, e_ln, e_lnT, e_cp, e_cvi, e_ex20, e_ex21, e_ex30, e_ex31, e_ex32, e_add, e_sub, e_mul, e_quo, e_rem, e_and, e_or, e_xor, e_shl, e_shr, e_eql, e_neq, e_lss, e_leq, e_gtr, e_geq, e_beq, e_bne, e_peq1, e_peq2, e_pne1, e_pne2, e_zeq1, e_zeq2, e_zne1, e_zne2, e_feq1, e_fne1, e_feq2, e_fne2, e_seq, e_sne, e_ta1, e_ta2, Nat.zero_add, Nat.add_zero, Bool.not_true, Bool.not_false]
      refine ld1_r hd1 rfl ?_
      simp only [e_fd, e_nck, e_pkt, e_pkf, e_gdtt, e_gdtf, e_gdft, e_gdff, e_ift, e_iff, e_not, e_ln, e_lnT, e_cp, e_cvi, e_ex20, e_ex21, e_ex30, e_ex31, e_ex32, e_add, e_sub, e_mul, e_quo, e_rem, e_and, e_or, e_xor, e_shl, e_shr, e_eql, e_neq, e_lss, e_leq, e_gtr, e_geq, e_beq, e_bne, e_peq1, e_peq2, e_pne1, e_pne2, e_zeq1, e_zeq2, e_zne1, e_zne2, e_feq1, e_fne1, e_feq2, e_fne2, e_seq, e_sne, e_ta1, e_ta2, Nat.zero_add, Nat.add_zero, Bool.not_true, Bool.not_false]
      by_cases hn : n = 16
      · have e : (n != 16) = false := by rw [hn]; rfl
        simp only [e, e_fd, e_nck, e_pkt, e_pkf, e_gdtt, e_gdtf, e_gdft, e_gdff, e_ift, e_iff, e_not, e_ln, e_lnT, e_cp, e_cvi, e_ex20, e_ex21, e_ex30, e_ex31, e_ex32, e_add, e_sub, e_mul, e_quo, e_rem, e_and, e_or, e_xor, e_shl, e_shr, e_eql, e_neq, e_lss, e_leq, e_gtr, e_geq, e_beq, e_bne, e_peq1, e_peq2, e_pne1, e_pne2, e_zeq1, e_zeq2, e_zne1, e_zne2, e_feq1, e_fne1, e_feq2, e_fne2, e_seq, e_sne, e_ta1, e_ta2, Nat.zero_add, Nat.add_zero, Bool.not_true, Bool.not_false]
        unfold s60_p1
        simp only [e_fd, e_nck, e_pkt, e_pkf, e_gdtt, e_gdtf, e_gdft, e_gdff, e_ift, e_iff, e_not, e_ln, e_lnT, e_cp, e_cvi, e_ex20, e_ex21, e_ex30, e_ex31, e_ex32, e_add, e_sub, e_mul, e_quo, e_rem, e_and, e_or, e_xor, e_shl, e_shr, e_eql, e_neq, e_lss, e_leq, e_gtr, e_geq, e_beq, e_bne, e_peq1, e_peq2, e_pne1, e_pne2, e_zeq1, e_zeq2, e_zne1, e_zne2, e_feq1, e_fne1, e_feq2, e_fne2, e_seq, e_sne, e_ta1, e_ta2, Nat.zero_add, Nat.add_zero, Bool.not_true, Bool.not_false]
        have : ((0 : Int) == 0) = true := rfl
        simp only [this, e_fd, e_nck, e_pkt, e_pkf, e_gdtt, e_gdtf, e_gdft, e_gdff, e_ift, e_iff, e_not, e_ln, e_lnT, e_cp, e_cvi, e_ex20, e_ex21, e_ex30, e_ex31, e_ex32, e_add, e_sub, e_mul, e_quo, e_rem, e_and, e_or, e_xor, e_shl, e_shr, e_eql, e_neq, e_lss, e_leq, e_gtr, e_geq, e_beq, e_bne, e_peq1, e_peq2, e_pne1, e_pne2, e_zeq1, e_zeq2, e_zne1, e_zne2, e_feq1, e_fne1, e_feq2, e_fne2, e_seq, e_sne, e_ta1, e_ta2, Nat.zero_add, Nat.add_zero, Bool.not_true, Bool.not_false]
        refine hK w1 _ hk1 ?_
        have : chkC s i n = 0 := by unfold chkC; rw [if_neg (by rw [ho]; decide), if_neg (by simpa using hi), if_neg (by simpa using hn)]
        rw [this]
        exact er0
      · have e : (n != 16) = true := by simpa using hn
        simp only [e, e_fd, e_nck, e_pkt, e_pkf, e_gdtt, e_gdtf, e_gdft, e_gdff, e_ift, e_iff, e_not, e_ln, e_lnT, e_cp, e_cvi, e_ex20, e_ex21, e_ex30, e_ex31, e_ex32, e_add, e_sub, e_mul, e_quo, e_rem, e_and, e_or, e_xor, e_shl, e_shr, e_eql, e_neq, e_lss, e_leq, e_gtr, e_geq, e_beq, e_bne, e_peq1, e_peq2, e_pne1, e_pne2, e_zeq1, e_zeq2, e_zne1, e_zne2, e_feq1, e_fne1, e_feq2, e_fne2, e_seq, e_sne, e_ta1, e_ta2, Nat.zero_add, Nat.add_zero, Bool.not_true, Bool.not_false]
        exact bad w1 2 (by decide) (by unfold chkC; rw [if_neg (by rw [ho]; decide), if_neg (by simpa using hi), if_pos hn]) hk1
    · rw [decide_eq_false hi]
      simp only [e_fd, e_nck, e_pkt, e_pkf, e_gdtt, e_gdtf, e_gdft, e_gdff, e_ift, e_iff, e_not, e_ln, e_lnT, e_cp, e_cvi, e_ex20, e_ex21, e_ex30, e_ex31, e_ex32, e_add, e_sub, e_mul, e_quo, e_rem, e_and, e_or, e_xor, e_shl, e_shr, e_eql, e_neq, e_lss, e_leq, e_gtr, e_geq, e_beq, e_bne, e_peq1, e_peq2, e_pne1, e_pne2, e_zeq1, e_zeq2, e_zne1, e_zne2, e_feq1, e_fne1, e_feq2, e_fne2, e_seq, e_sne, e_ta1, e_ta2, Nat.zero_add, Nat.add_zero, Bool.not_true, Bool.not_false]
      exact bad w1 1 (by decide) (by unfold chkC; rw [if_neg (by rw [ho]; decide), if_pos hi]) hk1

/-- the armed plan changes -/
theorem Dk.setK {w1 : World} {s' : DS} {kv' : Value} {kob' : Option Nat} (h : Dk w d m s) (hk : Kp (fun b => b = d) w w1) (hr : Row w1 d 91 (dcells { m with kv := kv', kob := kob' } s')) (e1 : s'.flu = s.flu) (e2 : s'.fr = s.fr)
    (hsl : Sl i1 1 w1 3 kob' kv' s'.keep) (hkl : s'.keep.length ≤ 65536) (l0 : 0 ≤ s'.left) (l1 : s'.left ≤ 9223372036854775807) : Dk w1 d { m with kv := kv', kob := kob' } s' := by
  obtain ⟨L, hL1, hL2, hL3⟩ := h.plat
  have ne : ∀ {b t l}, Row w b t l → t ≠ 91 → ¬ b = d := fun hr ht e => row_ne hr h.disk ht e
  have nel : ∀ b, m.lob = some b → ¬ b = d := fun b hb => by obtain ⟨l, hr⟩ := h.lines.row hb; exact ne hr (by decide)
  have nes : ∀ b, m.sob = some b → ¬ b = d := fun b hb => by obtain ⟨l, hr⟩ := h.spare.row hb; exact ne hr (by decide)
  refine ⟨hr, ⟨L, hL1, hk.row hL2 (ne hL2 (by decide)), by rw [e1]; exact hL3⟩, hk.row h.idx (ne h.idx (by decide)), h.lines.kp hk nel,
    h.lnd, ?_, by rw [e2]; exact h.frn, h.spare.kp hk nes, ?_, hsl, h.nd, by rw [e1]; exact h.fsec, by rw [e2]; exact h.rsec, hkl, l0, l1, h.tot⟩
  · intro p hp
    obtain ⟨q1, x, q2, q3⟩ := h.lin p hp
    exact ⟨q1, x, by rw [e2]; exact q2, hk.row q3 (ne q3 (by decide))⟩
  · intro b hb
    obtain ⟨x, q1, q2⟩ := h.spd b hb
    exact ⟨x, q1, hk.row q2 (ne q2 (by decide))⟩
end

/-! ### a loss of power -/
def clampN (a : Int) : Nat := if a < 0 then 0 else if 16 < a then 16 else a.toNat
theorem clampN_le (a : Int) : clampN a ≤ 16 := by unfold clampN; split; omega; split <;> omega
def keepF (s : DS) (keep : List Int) (torn : Int) (i : Nat) : List Int := match s.fr i with
  | none => s.flu i
  | some x => if (i : Int) ≠ torn ∧ (i : Int) ∈ keep then x else s.flu i
def cutF (s : DS) (keep : List Int) (torn a : Int) (i : Nat) : List Int := match s.fr i with
  | none => s.flu i
  | some x => if (i : Int) = torn then x.take (clampN a) ++ (s.flu i).drop (clampN a) else if (i : Int) ∈ keep then x else s.flu i
def inc (n : Int) : Int := IntKind.i64.wrap (n + 1)
def cutS (s : DS) (keep : List Int) (torn a : Int) : DS :=
  { s with flu := cutF s keep torn a, fr := fun _ => none, off := true, left := 0, keep := [], torn := 0, at_ := 0, cr := inc s.cr }

theorem lk_eq {s : DS} {k : Nat} (h : k < 12) : lk s k = s.fr k := by unfold lk; rw [if_pos (by omega)]; rfl
theorem lk_none {s : DS} {i : Nat} {k : Int} (hk : (i : Int) = k) (h12 : i < 12) (h : lk s k = none) : s.fr i = none := by subst hk; rw [lk_eq h12] at h; exact h

theorem cut_ok {w : World} {d : Nat} {m : Mem} {s : DS} {K : Value → World → Prop} {kv : Value} {keep : List Int} {torn a : Int} (h : Dk w d m s) (hkv : Vs I w kv keep) (hne : ∀ b o c, 0 < keep.length → kv = .slice (some ⟨b, o, none⟩) keep.length c → b ≠ m.pb)
    (hK : ∀ w' m', Dk w' d m' (cutS s keep torn a) → Stp w w' d m m' → K (.tuple #[]) w') : cl Try.prog 53 #[.pointer (some ⟨d, 0, none⟩), .agg #[kv, I torn, I a]] K w := by
  have hkl := hkv.len
  have fr12 : ∀ i x, s.fr i = some x → i < 12 := by
    intro i x hx
    by_cases q : ∃ p ∈ m.ls, p.1 = i
    · obtain ⟨p, hp, e⟩ := q; rw [← e]; exact (h.lin p hp).1
    · rw [h.frn i (fun p hp e => q ⟨p, hp, e⟩)] at hx; cases hx
  apply c53
  unfold s53_p12
  refine nw_r fun w1 r1 hk1 hz1 => ?_
  have h1 := h.kp' hk1
  have hkv1 := hkv.kp' hk1
  simp only [e_fd, e_nck, e_pkt, e_pkf, e_gdtt, e_gdtf, e_gdft, e_gdff, e_ift, e_iff, e_not, e_ln, e_lnT, e_cp, e_cvi, e_ex20, e_ex21, e_ex30, e_ex31, e_ex32, e_add, e_sub, e_mul, e_quo, e_rem, e_and, e_or, e_xor, e_shl, e_shr, e_eql, e_neq, e_lss, e_leq, e_gtr, e_geq, e_beq, e_bne, e_peq1, e_peq2, e_pne1, e_pne2, e_zeq1, e_zeq2, e_zne1, e_zne2, e_feq1, e_fne1, e_feq2, e_fne2, e_seq, e_sne, e_ta1, e_ta2, Nat.zero_add, Nat.add_zero, Bool.not_true, Bool.not_false]
  refine ld1_r r1 rfl ?_
  refine hkv1.ln ?_
  -- what comes after the loops
  have last : ∀ w2 f, Dk w2 d m { s with flu := f } → (∀ i, i < 12 → f i = cutF s keep torn a i) → Stp w w2 d m m → s53_p1 K (.pointer (some ⟨d, 0, none⟩)) w2 := by
    intro w2 f h2 hf st2
    unfold s53_p1
    simp only [e_fd, e_nck, e_pkt, e_pkf, e_gdtt, e_gdtf, e_gdft, e_gdff, e_ift, e_iff, e_not, e_ln, e_lnT, e_cp, e_cvi, e_ex20, e_ex21, e_ex30, e_ex31, e_ex32, e_add, e_sub, e_mul, e_quo, e_rem, e_and, e_or, e_xor, e_shl, e_shr, e_eql, e_neq, e_lss, e_leq, e_gtr, e_geq, e_beq, e_bne, e_peq1, e_peq2, e_pne1, e_pne2, e_zeq1, e_zeq2, e_zne1, e_zne2, e_feq1, e_fne1, e_feq2, e_fne2, e_seq, e_sne, e_ta1, e_ta2, Nat.zero_add, Nat.add_zero, Bool.not_true, Bool.not_false]
    refine drop_ok h2 fun w3 m3 h3 st3 => ?_
    refine bdq_r rfl ?_
    refine stn_r h3.disk rfl (show 8 + 4 ≤ 17 by decide) rfl fun w4 r4 hk4 hz4 => ?_
    have h4 : Dk w4 d { m3 with kv := .slice none 0 0, kob := none } { s with flu := f, fr := fun _ => none, left := 0, keep := [], torn := 0, at_ := 0 } :=
      h3.setK hk4 r4 rfl rfl ⟨rfl, rfl⟩ (show (0 : Nat) ≤ 65536 by decide) (show (0 : Int) ≤ 0 by decide) (show (0 : Int) ≤ 9223372036854775807 by decide)
    refine st1_r h4.disk (show 7 < 17 by decide) rfl fun w5 r5 hk5 hz5 => ?_
    have h5 : Dk w5 d { m3 with kv := .slice none 0 0, kob := none } { s with flu := f, fr := fun _ => none, left := 0, keep := [], torn := 0, at_ := 0, off := true } :=
      h4.setD hk5 r5 rfl rfl rfl (show (0 : Int) ≤ 0 by decide) (show (0 : Int) ≤ 9223372036854775807 by decide)
    refine ld1_r h5.disk rfl ?_
    simp only [e_fd, e_nck, e_pkt, e_pkf, e_gdtt, e_gdtf, e_gdft, e_gdff, e_ift, e_iff, e_not, e_ln, e_lnT, e_cp, e_cvi, e_ex20, e_ex21, e_ex30, e_ex31, e_ex32, e_add, e_sub, e_mul, e_quo, e_rem, e_and, e_or, e_xor, e_shl, e_shr, e_eql, e_neq, e_lss, e_leq, e_gtr, e_geq, e_beq, e_bne, e_peq1, e_peq2, e_pne1, e_pne2, e_zeq1, e_zeq2, e_zne1, e_zne2, e_feq1, e_fne1, e_feq2, e_fne2, e_seq, e_sne, e_ta1, e_ta2, Nat.zero_add, Nat.add_zero, Bool.not_true, Bool.not_false]
    refine st1_r h5.disk (show 15 < 17 by decide) rfl fun w6 r6 hk6 hz6 => ?_
    have h6 : Dk w6 d { m3 with kv := .slice none 0 0, kob := none } { s with flu := f, fr := fun _ => none, left := 0, keep := [], torn := 0, at_ := 0, off := true, cr := inc s.cr } :=
      h5.setD hk6 r6 rfl rfl rfl (show (0 : Int) ≤ 0 by decide) (show (0 : Int) ≤ 9223372036854775807 by decide)
    have h7 : Dk w6 d { m3 with kv := .slice none 0 0, kob := none } (cutS s keep torn a) := by
      obtain ⟨L, hL1, hL2, hL3⟩ := h6.plat
      exact ⟨h6.disk, ⟨L, hL1, hL2, fun i hi => by rw [hL3 i hi]; exact hf i hi⟩, h6.idx, h6.lines, h6.lnd, h6.lin, h6.frn, h6.spare, h6.spd, h6.kp, h6.nd, fun i hi => by have := h6.fsec i hi; rw [show (cutS s keep torn a).flu i = f i from (hf i hi).symm]; exact this, h6.rsec, h6.klen, h6.left0, h6.left1, h6.tot⟩
    refine hK w6 _ h7 ⟨?_, ?_⟩
    · refine (st2.trans st3).kp.then (((hk4.trans hk5).trans hk6)) (fun k hk (q : k = d) => .inl q)
    · rintro b (q | q | q | q | q | q | q | q)
      · exact .inl (.inl q)
      · exact (st2.trans st3).own b (.inr (.inl q))
      · exact (st2.trans st3).own b (.inr (.inr (.inl q)))
      · exact (st2.trans st3).own b (.inr (.inr (.inr (.inl q))))
      · exact (st2.trans st3).own b (.inr (.inr (.inr (.inr (.inl q)))))
      · cases q
      · exact (st2.trans st3).own b (.inr (.inr (.inr (.inr (.inr (.inr (.inl q)))))))
      · exact (st2.trans st3).own b (.inr (.inr (.inr (.inr (.inr (.inr (.inr q)))))))
  -- the torn sector
  have tearing : ∀ w2, Row w2 w.heap.size 32 [kv, I torn, I a] → Dk w2 d m { s with flu := keepF s keep torn } → Stp w w2 d m m → s53_p8 K (.pointer (some ⟨d, 0, none⟩)) (.pointer (some ⟨w.heap.size, 0, none⟩)) w2 := by
    intro w2 r2 h2 st2
    unfold s53_p8 s53_p8_d
    simp only [e_fd, e_nck, e_pkt, e_pkf, e_gdtt, e_gdtf, e_gdft, e_gdff, e_ift, e_iff, e_not, e_ln, e_lnT, e_cp, e_cvi, e_ex20, e_ex21, e_ex30, e_ex31, e_ex32, e_add, e_sub, e_mul, e_quo, e_rem, e_and, e_or, e_xor, e_shl, e_shr, e_eql, e_neq, e_lss, e_leq, e_gtr, e_geq, e_beq, e_bne, e_peq1, e_peq2, e_pne1, e_pne2, e_zeq1, e_zeq2, e_zne1, e_zne2, e_feq1, e_fne1, e_feq2, e_fne2, e_seq, e_sne, e_ta1, e_ta2, Nat.zero_add, Nat.add_zero, Bool.not_true, Bool.not_false]
    refine ld1_r r2.drw rfl ?_
    have h2' := h2.kp' (kp_drw (w := w2))
    have st2' : Stp w (drw w2) d m m := st2.trans (Stp.of0 kp_drw)
    refine lookup_ok h2' torn (fun hN => ?_) (fun p x hp hpt hlk hfr hrow => ?_)
    · unfold s53_p7 s53_p6
      simp only [e_fd, e_nck, e_pkt, e_pkf, e_gdtt, e_gdtf, e_gdft, e_gdff, e_ift, e_iff, e_not, e_ln, e_lnT, e_cp, e_cvi, e_ex20, e_ex21, e_ex30, e_ex31, e_ex32, e_add, e_sub, e_mul, e_quo, e_rem, e_and, e_or, e_xor, e_shl, e_shr, e_eql, e_neq, e_lss, e_leq, e_gtr, e_geq, e_beq, e_bne, e_peq1, e_peq2, e_pne1, e_pne2, e_zeq1, e_zeq2, e_zne1, e_zne2, e_feq1, e_fne1, e_feq2, e_fne2, e_seq, e_sne, e_ta1, e_ta2, Nat.zero_add, Nat.add_zero, Bool.not_true, Bool.not_false]
      refine last _ _ h2' (fun i hi => ?_) st2'
      unfold keepF cutF
      cases hfi : s.fr i with
      | none => rfl
      | some x =>
        simp only
        have hnt : (i : Int) ≠ torn := fun e => by have := lk_none (s := { s with flu := keepF s keep torn }) e hi hN; rw [show s.fr i = none from this] at hfi; cases hfi
        rw [if_neg hnt]
        by_cases q : (i : Int) ∈ keep
        · rw [if_pos ⟨hnt, q⟩, if_pos q]
        · rw [if_neg (fun r => q r.2), if_neg q]
    · unfold buf s53_p7 s53_p6
      simp only [e_fd, e_nck, e_pkt, e_pkf, e_gdtt, e_gdtf, e_gdft, e_gdff, e_ift, e_iff, e_not, e_ln, e_lnT, e_cp, e_cvi, e_ex20, e_ex21, e_ex30, e_ex31, e_ex32, e_add, e_sub, e_mul, e_quo, e_rem, e_and, e_or, e_xor, e_shl, e_shr, e_eql, e_neq, e_lss, e_leq, e_gtr, e_geq, e_beq, e_bne, e_peq1, e_peq2, e_pne1, e_pne2, e_zeq1, e_zeq2, e_zne1, e_zne2, e_feq1, e_fne1, e_feq2, e_fne2, e_seq, e_sne, e_ta1, e_ta2, Nat.zero_add, Nat.add_zero, Bool.not_true, Bool.not_false]
      unfold s53_p5
      simp only [e_fd, e_nck, e_pkt, e_pkf, e_gdtt, e_gdtf, e_gdft, e_gdff, e_ift, e_iff, e_not, e_ln, e_lnT, e_cp, e_cvi, e_ex20, e_ex21, e_ex30, e_ex31, e_ex32, e_add, e_sub, e_mul, e_quo, e_rem, e_and, e_or, e_xor, e_shl, e_shr, e_eql, e_neq, e_lss, e_leq, e_gtr, e_geq, e_beq, e_bne, e_peq1, e_peq2, e_pne1, e_pne2, e_zeq1, e_zeq2, e_zne1, e_zne2, e_feq1, e_fne1, e_feq2, e_fne2, e_seq, e_sne, e_ta1, e_ta2, Nat.zero_add, Nat.add_zero, Bool.not_true, Bool.not_false]
      refine ld1_r r2.drw rfl ?_
      simp only [e_fd, e_nck, e_pkt, e_pkf, e_gdtt, e_gdtf, e_gdft, e_gdff, e_ift, e_iff, e_not, e_ln, e_lnT, e_cp, e_cvi, e_ex20, e_ex21, e_ex30, e_ex31, e_ex32, e_add, e_sub, e_mul, e_quo, e_rem, e_and, e_or, e_xor, e_shl, e_shr, e_eql, e_neq, e_lss, e_leq, e_gtr, e_geq, e_beq, e_bne, e_peq1, e_peq2, e_pne1, e_pne2, e_zeq1, e_zeq2, e_zne1, e_zne2, e_feq1, e_fne1, e_feq2, e_fne2, e_seq, e_sne, e_ta1, e_ta2, Nat.zero_add, Nat.add_zero, Bool.not_true, Bool.not_false]
      have hp12 := (h2'.lin p hp).1
      have hxs := h2'.rsec _ _ hfr
      have hfr' : s.fr p.1 = some x := hfr
      -- with the number in bounds
      have fin : ∀ n : Nat, n ≤ 16 → n = clampN a → ∀ w3, Dk w3 d m { s with flu := keepF s keep torn } → Row w3 w.heap.size 32 [kv, I torn, I a] → Row w3 p.2 5 (x.map U8) → Stp w w3 d m m → s53_p3 K (.pointer (some ⟨d, 0, none⟩)) (.pointer (some ⟨w.heap.size, 0, none⟩)) (.slice (some ⟨p.2, 0, none⟩) 16 16) (I n) w3 := by
        intro n hn hnc w3 h3 r3 hrow3 st3
        unfold s53_p3 s53_p3_d
        simp only [e_fd, e_nck, e_pkt, e_pkf, e_gdtt, e_gdtf, e_gdft, e_gdff, e_ift, e_iff, e_not, e_ln, e_lnT, e_cp, e_cvi, e_ex20, e_ex21, e_ex30, e_ex31, e_ex32, e_add, e_sub, e_mul, e_quo, e_rem, e_and, e_or, e_xor, e_shl, e_shr, e_eql, e_neq, e_lss, e_leq, e_gtr, e_geq, e_beq, e_bne, e_peq1, e_peq2, e_pne1, e_pne2, e_zeq1, e_zeq2, e_zne1, e_zne2, e_feq1, e_fne1, e_feq2, e_fne2, e_seq, e_sne, e_ta1, e_ta2, Nat.zero_add, Nat.add_zero, Bool.not_true, Bool.not_false]
        have h3' := h3.kp' (kp_drw (w := w3))
        refine ldn_r h3'.disk (show 0 + 2 ≤ 17 by decide) ?_
        refine ld1_r r3.drw rfl ?_
        rw [← hpt]
        refine span_ok hp12 fun w4 hk4 => ?_
        simp only [e_fd, e_nck, e_pkt, e_pkf, e_gdtt, e_gdtf, e_gdft, e_gdff, e_ift, e_iff, e_not, e_ln, e_lnT, e_cp, e_cvi, e_ex20, e_ex21, e_ex30, e_ex31, e_ex32, e_add, e_sub, e_mul, e_quo, e_rem, e_and, e_or, e_xor, e_shl, e_shr, e_eql, e_neq, e_lss, e_leq, e_gtr, e_geq, e_beq, e_bne, e_peq1, e_peq2, e_pne1, e_pne2, e_zeq1, e_zeq2, e_zne1, e_zne2, e_feq1, e_fne1, e_feq2, e_fne2, e_seq, e_sne, e_ta1, e_ta2, Nat.zero_add, Nat.add_zero, Bool.not_true, Bool.not_false]
        have h4 := h3'.kp' hk4
        have hrow4 := hk4.row' hrow3.drw
        have st4 : Stp w w4 d m m := st3.trans (Stp.of0 (kp_drw.trans hk4))
        have body : s53_p2 K (.pointer (some ⟨d, 0, none⟩)) (.slice (some ⟨p.2, 0, none⟩) 16 16) (I n) (I ((16 * p.1 : Nat) : Int)) w4 := by
          unfold s53_p2 s53_p2_d
          simp only [e_fd, e_nck, e_pkt, e_pkf, e_gdtt, e_gdtf, e_gdft, e_gdff, e_ift, e_iff, e_not, e_ln, e_lnT, e_cp, e_cvi, e_ex20, e_ex21, e_ex30, e_ex31, e_ex32, e_add, e_sub, e_mul, e_quo, e_rem, e_and, e_or, e_xor, e_shl, e_shr, e_eql, e_neq, e_lss, e_leq, e_gtr, e_geq, e_beq, e_bne, e_peq1, e_peq2, e_pne1, e_pne2, e_zeq1, e_zeq2, e_zne1, e_zne2, e_feq1, e_fne1, e_feq2, e_fne2, e_seq, e_sne, e_ta1, e_ta2, Nat.zero_add, Nat.add_zero, Bool.not_true, Bool.not_false]
          have h5 := h4.kp' (kp_drw (w := w4))
          refine ld1_r h5.disk rfl ?_
          rw [wrap64_id (by omega) (by omega)]
          refine pslice hp12 hn m.pb rfl (by omega) ?_
          refine ⟨⟨by omega, by omega, by omega⟩, ?_⟩
          have e1 : (if 16 = ((0 : Nat) : Int).toNat then (some (⟨p.2, 0, none⟩ : Addr)) else (some (⟨p.2, 0, none⟩ : Addr)).map (·.add (((0 : Nat) : Int).toNat * 1))) = some ⟨p.2, 0, none⟩ := by
            rw [if_neg (by decide)]
            show some ((⟨p.2, 0, none⟩ : Addr).add (0 * 1)) = _; rw [add_mk]
          rw [e1]
          have e2 : ((n : Int)).toNat - ((0 : Nat) : Int).toNat = n := by omega
          rw [e2]
          have hvs : Vs U8 (drw w4) (.slice (some ⟨p.2, 0, none⟩) n (16 - ((0 : Nat) : Int).toNat)) ((x.drop 0).take n) := vs_part hrow4.drw (by rw [hxs.1]; omega) (by omega) (by omega)
          rw [List.drop_zero] at hvs
          refine plat_cp h5 hp12 hvs (by rw [List.length_take, hxs.1]; omega) hn (fun y hy => hxs.2 y (List.mem_of_mem_take hy)) fun w6 h6 hk6 hz6 => ?_
          refine last w6 _ h6 (fun i hi => ?_) ((st4.trans (Stp.of0 kp_drw)).trans (Stp.of hk6 fun b _ q => .inr (.inl q)))
          by_cases e : i = p.1
          · subst e
            have eK : keepF s keep torn p.1 = s.flu p.1 := by unfold keepF; rw [hfr']; simp only; rw [if_neg (fun r => r.1 hpt)]
            have eC : cutF s keep torn a p.1 = x.take (clampN a) ++ (s.flu p.1).drop (clampN a) := by unfold cutF; rw [hfr']; simp only; rw [if_pos hpt]
            show upd (keepF s keep torn) p.1 (x.take n ++ (keepF s keep torn p.1).drop n) p.1 = _
            unfold upd
            rw [if_pos rfl, eK, eC, hnc]
          · show upd (keepF s keep torn) p.1 (x.take n ++ (keepF s keep torn p.1).drop n) i = _
            unfold upd
            rw [if_neg e]
            unfold keepF cutF
            cases hfi : s.fr i with
            | none => rfl
            | some y =>
              simp only
              have hnt : (i : Int) ≠ torn := fun q => e (by omega)
              rw [if_neg hnt]
              by_cases q : (i : Int) ∈ keep
              · rw [if_pos ⟨hnt, q⟩, if_pos q]
              · rw [if_neg (fun r => q r.2), if_neg q]
        exact ⟨⟨body, body⟩, body⟩
      have p4 : ∀ (n0 : Int), 0 ≤ n0 → clampN a = (if 16 < n0 then 16 else n0.toNat) → s53_p4 K (.pointer (some ⟨d, 0, none⟩)) (.pointer (some ⟨w.heap.size, 0, none⟩)) (.slice (some ⟨p.2, 0, none⟩) 16 16) (I n0) (drw w2) := by
        intro n0 h0 hc
        unfold s53_p4
        simp only [e_fd, e_nck, e_pkt, e_pkf, e_gdtt, e_gdtf, e_gdft, e_gdff, e_ift, e_iff, e_not, e_ln, e_lnT, e_cp, e_cvi, e_ex20, e_ex21, e_ex30, e_ex31, e_ex32, e_add, e_sub, e_mul, e_quo, e_rem, e_and, e_or, e_xor, e_shl, e_shr, e_eql, e_neq, e_lss, e_leq, e_gtr, e_geq, e_beq, e_bne, e_peq1, e_peq2, e_pne1, e_pne2, e_zeq1, e_zeq2, e_zne1, e_zne2, e_feq1, e_fne1, e_feq2, e_fne2, e_seq, e_sne, e_ta1, e_ta2, Nat.zero_add, Nat.add_zero, Bool.not_true, Bool.not_false]
        refine ld1_r h2'.disk rfl ?_
        simp only [e_fd, e_nck, e_pkt, e_pkf, e_gdtt, e_gdtf, e_gdft, e_gdff, e_ift, e_iff, e_not, e_ln, e_lnT, e_cp, e_cvi, e_ex20, e_ex21, e_ex30, e_ex31, e_ex32, e_add, e_sub, e_mul, e_quo, e_rem, e_and, e_or, e_xor, e_shl, e_shr, e_eql, e_neq, e_lss, e_leq, e_gtr, e_geq, e_beq, e_bne, e_peq1, e_peq2, e_pne1, e_pne2, e_zeq1, e_zeq2, e_zne1, e_zne2, e_feq1, e_fne1, e_feq2, e_fne2, e_seq, e_sne, e_ta1, e_ta2, Nat.zero_add, Nat.add_zero, Bool.not_true, Bool.not_false]
        by_cases h16 : (16 : Int) < n0
        · simp only [h16, decide_true, e_fd, e_nck, e_pkt, e_pkf, e_gdtt, e_gdtf, e_gdft, e_gdff, e_ift, e_iff, e_not, e_ln, e_lnT, e_cp, e_cvi, e_ex20, e_ex21, e_ex30, e_ex31, e_ex32, e_add, e_sub, e_mul, e_quo, e_rem, e_and, e_or, e_xor, e_shl, e_shr, e_eql, e_neq, e_lss, e_leq, e_gtr, e_geq, e_beq, e_bne, e_peq1, e_peq2, e_pne1, e_pne2, e_zeq1, e_zeq2, e_zne1, e_zne2, e_feq1, e_fne1, e_feq2, e_fne2, e_seq, e_sne, e_ta1, e_ta2, Nat.zero_add, Nat.add_zero, Bool.not_true, Bool.not_false]
          refine ld1_r h2'.disk rfl ?_
          exact fin 16 (by omega) (by rw [hc, if_pos h16]) _ h2' r2.drw hrow st2'
        · simp only [h16, decide_false, e_fd, e_nck, e_pkt, e_pkf, e_gdtt, e_gdtf, e_gdft, e_gdff, e_ift, e_iff, e_not, e_ln, e_lnT, e_cp, e_cvi, e_ex20, e_ex21, e_ex30, e_ex31, e_ex32, e_add, e_sub, e_mul, e_quo, e_rem, e_and, e_or, e_xor, e_shl, e_shr, e_eql, e_neq, e_lss, e_leq, e_gtr, e_geq, e_beq, e_bne, e_peq1, e_peq2, e_pne1, e_pne2, e_zeq1, e_zeq2, e_zne1, e_zne2, e_feq1, e_fne1, e_feq2, e_fne2, e_seq, e_sne, e_ta1, e_ta2, Nat.zero_add, Nat.add_zero, Bool.not_true, Bool.not_false]
          have := fin n0.toNat (by omega) (by rw [hc, if_neg h16]) _ h2' r2.drw hrow st2'
          rw [Int.toNat_of_nonneg h0] at this
          exact this
      by_cases ha : a < 0
      · simp only [ha, decide_true, e_fd, e_nck, e_pkt, e_pkf, e_gdtt, e_gdtf, e_gdft, e_gdff, e_ift, e_iff, e_not, e_ln, e_lnT, e_cp, e_cvi, e_ex20, e_ex21, e_ex30, e_ex31, e_ex32, e_add, e_sub, e_mul, e_quo, e_rem, e_and, e_or, e_xor, e_shl, e_shr, e_eql, e_neq, e_lss, e_leq, e_gtr, e_geq, e_beq, e_bne, e_peq1, e_peq2, e_pne1, e_pne2, e_zeq1, e_zeq2, e_zne1, e_zne2, e_feq1, e_fne1, e_feq2, e_fne2, e_seq, e_sne, e_ta1, e_ta2, Nat.zero_add, Nat.add_zero, Bool.not_true, Bool.not_false]
        exact p4 0 (by decide) (by unfold clampN; rw [if_pos ha]; rfl)
      · simp only [ha, decide_false, e_fd, e_nck, e_pkt, e_pkf, e_gdtt, e_gdtf, e_gdft, e_gdff, e_ift, e_iff, e_not, e_ln, e_lnT, e_cp, e_cvi, e_ex20, e_ex21, e_ex30, e_ex31, e_ex32, e_add, e_sub, e_mul, e_quo, e_rem, e_and, e_or, e_xor, e_shl, e_shr, e_eql, e_neq, e_lss, e_leq, e_gtr, e_geq, e_beq, e_bne, e_peq1, e_peq2, e_pne1, e_pne2, e_zeq1, e_zeq2, e_zne1, e_zne2, e_feq1, e_fne1, e_feq2, e_fne2, e_seq, e_sne, e_ta1, e_ta2, Nat.zero_add, Nat.add_zero, Bool.not_true, Bool.not_false]
        exact p4 a (by omega) (by unfold clampN; rw [if_neg ha])
  -- the loop over the kept sectors
  unfold s53_p11
  have hdw : d < w.heap.size := h.lt (.inl rfl)
  have hpw : m.pb < w.heap.size := h.lt (.inr (.inl rfl))
  refine ⟨fun n l w' => ∃ j : Nat, j ≤ keep.length ∧ n = keep.length - j ∧ l = [.pointer (some ⟨d, 0, none⟩), .pointer (some ⟨w.heap.size, 0, none⟩), kv, I keep.length, I j] ∧ Dk w' d m { s with flu := keepF s (keep.take j) torn } ∧ Row w' w.heap.size 32 [kv, I torn, I a] ∧ Kp (fun b => b = m.pb) w w',
    keep.length, ⟨0, by omega, by omega, rfl, ?_, r1, hk1.none⟩, ?_⟩
  · have : keepF s (keep.take 0) torn = s.flu := by
      funext i
      unfold keepF
      cases s.fr i with
      | none => rfl
      | some x => simp only; rw [if_neg (by simp)]
    rw [this]; exact h1
  rintro n l w2 ⟨j, hj, rfl, rfl, h2, r2, hk2⟩
  rw [s53_p11_Fe]
  unfold s53_p10
  simp only [e_fd, e_nck, e_pkt, e_pkf, e_gdtt, e_gdtf, e_gdft, e_gdff, e_ift, e_iff, e_not, e_ln, e_lnT, e_cp, e_cvi, e_ex20, e_ex21, e_ex30, e_ex31, e_ex32, e_add, e_sub, e_mul, e_quo, e_rem, e_and, e_or, e_xor, e_shl, e_shr, e_eql, e_neq, e_lss, e_leq, e_gtr, e_geq, e_beq, e_bne, e_peq1, e_peq2, e_pne1, e_pne2, e_zeq1, e_zeq2, e_zne1, e_zne2, e_feq1, e_fne1, e_feq2, e_fne2, e_seq, e_sne, e_ta1, e_ta2, Nat.zero_add, Nat.add_zero, Bool.not_true, Bool.not_false]
  have hkv2 := hkv.kp hk2 (fun b o c h0 e q => hne b o c h0 e q)
  by_cases hlt : j < keep.length
  · have hlt' : (j : Int) < (keep.length : Int) := by omega
    simp only [hlt', decide_true, e_fd, e_nck, e_pkt, e_pkf, e_gdtt, e_gdtf, e_gdft, e_gdff, e_ift, e_iff, e_not, e_ln, e_lnT, e_cp, e_cvi, e_ex20, e_ex21, e_ex30, e_ex31, e_ex32, e_add, e_sub, e_mul, e_quo, e_rem, e_and, e_or, e_xor, e_shl, e_shr, e_eql, e_neq, e_lss, e_leq, e_gtr, e_geq, e_beq, e_bne, e_peq1, e_peq2, e_pne1, e_pne2, e_zeq1, e_zeq2, e_zne1, e_zne2, e_feq1, e_fne1, e_feq2, e_fne2, e_seq, e_sne, e_ta1, e_ta2, Nat.zero_add, Nat.add_zero, Bool.not_true, Bool.not_false]
    refine hkv2.ix hlt fun b q hld => hld _ ?_
    refine ld1_r r2 rfl ?_
    simp only [e_fd, e_nck, e_pkt, e_pkf, e_gdtt, e_gdtf, e_gdft, e_gdff, e_ift, e_iff, e_not, e_ln, e_lnT, e_cp, e_cvi, e_ex20, e_ex21, e_ex30, e_ex31, e_ex32, e_add, e_sub, e_mul, e_quo, e_rem, e_and, e_or, e_xor, e_shl, e_shr, e_eql, e_neq, e_lss, e_leq, e_gtr, e_geq, e_beq, e_bne, e_peq1, e_peq2, e_pne1, e_pne2, e_zeq1, e_zeq2, e_zne1, e_zne2, e_feq1, e_fne1, e_feq2, e_fne2, e_seq, e_sne, e_ta1, e_ta2, Nat.zero_add, Nat.add_zero, Bool.not_true, Bool.not_false]
    have mem1 : ∀ i : Nat, (i : Int) ∈ keep.take (j + 1) ↔ ((i : Int) ∈ keep.take j ∨ (i : Int) = keep[j]) := by
      intro i
      rw [List.take_succ_eq_append_getElem hlt, List.mem_append]
      simp
    have next : ∀ w3, Dk w3 d m { s with flu := keepF s (keep.take (j + 1)) torn } → Row w3 w.heap.size 32 [kv, I torn, I a] → Kp (fun b => b = m.pb) w w3 → s53_p9 K (fun l' w' => ∃ m', m' < keep.length - j ∧ ∃ j : Nat, j ≤ keep.length ∧ m' = keep.length - j ∧ l' = [.pointer (some ⟨d, 0, none⟩), .pointer (some ⟨w.heap.size, 0, none⟩), kv, I keep.length, I j] ∧ Dk w' d m { s with flu := keepF s (keep.take j) torn } ∧ Row w' w.heap.size 32 [kv, I torn, I a] ∧ Kp (fun b => b = m.pb) w w') (.pointer (some ⟨d, 0, none⟩)) (.pointer (some ⟨w.heap.size, 0, none⟩)) kv (I keep.length) (I j) w3 := by
      intro w3 h3 r3 hk3
      unfold s53_p9
      simp only [e_fd, e_nck, e_pkt, e_pkf, e_gdtt, e_gdtf, e_gdft, e_gdff, e_ift, e_iff, e_not, e_ln, e_lnT, e_cp, e_cvi, e_ex20, e_ex21, e_ex30, e_ex31, e_ex32, e_add, e_sub, e_mul, e_quo, e_rem, e_and, e_or, e_xor, e_shl, e_shr, e_eql, e_neq, e_lss, e_leq, e_gtr, e_geq, e_beq, e_bne, e_peq1, e_peq2, e_pne1, e_pne2, e_zeq1, e_zeq2, e_zne1, e_zne2, e_feq1, e_fne1, e_feq2, e_fne2, e_seq, e_sne, e_ta1, e_ta2, Nat.zero_add, Nat.add_zero, Bool.not_true, Bool.not_false]
      rw [wrap64_id (by omega) (by omega)]
      exact ⟨keep.length - (j + 1), by omega, j + 1, by omega, rfl, by simp, h3, r3, hk3⟩
    by_cases ht : keep[j] = torn
    · have e : (keep[j] == torn) = true := by simpa using ht
      simp only [e, e_fd, e_nck, e_pkt, e_pkf, e_gdtt, e_gdtf, e_gdft, e_gdff, e_ift, e_iff, e_not, e_ln, e_lnT, e_cp, e_cvi, e_ex20, e_ex21, e_ex30, e_ex31, e_ex32, e_add, e_sub, e_mul, e_quo, e_rem, e_and, e_or, e_xor, e_shl, e_shr, e_eql, e_neq, e_lss, e_leq, e_gtr, e_geq, e_beq, e_bne, e_peq1, e_peq2, e_pne1, e_pne2, e_zeq1, e_zeq2, e_zne1, e_zne2, e_feq1, e_fne1, e_feq2, e_fne2, e_seq, e_sne, e_ta1, e_ta2, Nat.zero_add, Nat.add_zero, Bool.not_true, Bool.not_false]
      refine next w2 ?_ r2 hk2
      have : keepF s (keep.take (j + 1)) torn = keepF s (keep.take j) torn := by
        funext i
        unfold keepF
        cases s.fr i with
        | none => rfl
        | some x =>
          simp only
          by_cases q : (i : Int) ≠ torn ∧ (i : Int) ∈ keep.take j
          · rw [if_pos q, if_pos ⟨q.1, (mem1 i).2 (.inl q.2)⟩]
          · rw [if_neg q, if_neg]
            rintro ⟨q1, q2⟩
            rcases (mem1 i).1 q2 with q2 | q2
            · exact q ⟨q1, q2⟩
            · exact q1 (by rw [q2, ht])
      rw [this]; exact h2
    · have e : (keep[j] == torn) = false := by simpa using ht
      simp only [e, e_fd, e_nck, e_pkt, e_pkf, e_gdtt, e_gdtf, e_gdft, e_gdff, e_ift, e_iff, e_not, e_ln, e_lnT, e_cp, e_cvi, e_ex20, e_ex21, e_ex30, e_ex31, e_ex32, e_add, e_sub, e_mul, e_quo, e_rem, e_and, e_or, e_xor, e_shl, e_shr, e_eql, e_neq, e_lss, e_leq, e_gtr, e_geq, e_beq, e_bne, e_peq1, e_peq2, e_pne1, e_pne2, e_zeq1, e_zeq2, e_zne1, e_zne2, e_feq1, e_fne1, e_feq2, e_fne2, e_seq, e_sne, e_ta1, e_ta2, Nat.zero_add, Nat.add_zero, Bool.not_true, Bool.not_false]
      refine lookup_ok h2 keep[j] (fun hN => ?_) (fun p x hp hpt hlk hfr hrow => ?_)
      · simp only [e_fd, e_nck, e_pkt, e_pkf, e_gdtt, e_gdtf, e_gdft, e_gdff, e_ift, e_iff, e_not, e_ln, e_lnT, e_cp, e_cvi, e_ex20, e_ex21, e_ex30, e_ex31, e_ex32, e_add, e_sub, e_mul, e_quo, e_rem, e_and, e_or, e_xor, e_shl, e_shr, e_eql, e_neq, e_lss, e_leq, e_gtr, e_geq, e_beq, e_bne, e_peq1, e_peq2, e_pne1, e_pne2, e_zeq1, e_zeq2, e_zne1, e_zne2, e_feq1, e_fne1, e_feq2, e_fne2, e_seq, e_sne, e_ta1, e_ta2, Nat.zero_add, Nat.add_zero, Bool.not_true, Bool.not_false]
        refine next w2 ?_ r2 hk2
        have : keepF s (keep.take (j + 1)) torn = keepF s (keep.take j) torn := by
          funext i
          unfold keepF
          cases hfi : s.fr i with
          | none => rfl
          | some x =>
            simp only
            by_cases q : (i : Int) ≠ torn ∧ (i : Int) ∈ keep.take j
            · rw [if_pos q, if_pos ⟨q.1, (mem1 i).2 (.inl q.2)⟩]
            · rw [if_neg q, if_neg]
              rintro ⟨q1, q2⟩
              rcases (mem1 i).1 q2 with q2 | q2
              · exact q ⟨q1, q2⟩
              · have := lk_none (s := { s with flu := keepF s (keep.take j) torn }) q2 (fr12 i x hfi) hN
                rw [show s.fr i = none from this] at hfi; cases hfi
        rw [this]; exact h2
      · unfold buf
        simp only [e_fd, e_nck, e_pkt, e_pkf, e_gdtt, e_gdtf, e_gdft, e_gdff, e_ift, e_iff, e_not, e_ln, e_lnT, e_cp, e_cvi, e_ex20, e_ex21, e_ex30, e_ex31, e_ex32, e_add, e_sub, e_mul, e_quo, e_rem, e_and, e_or, e_xor, e_shl, e_shr, e_eql, e_neq, e_lss, e_leq, e_gtr, e_geq, e_beq, e_bne, e_peq1, e_peq2, e_pne1, e_pne2, e_zeq1, e_zeq2, e_zne1, e_zne2, e_feq1, e_fne1, e_feq2, e_fne2, e_seq, e_sne, e_ta1, e_ta2, Nat.zero_add, Nat.add_zero, Bool.not_true, Bool.not_false]
        have hp12 := (h2.lin p hp).1
        have hxs := h2.rsec _ _ hfr
        have hfr' : s.fr p.1 = some x := hfr
        refine ldn_r h2.disk (show 0 + 2 ≤ 17 by decide) ?_
        rw [← hpt]
        refine span_ok hp12 fun w3 hk3 => ?_
        simp only [e_fd, e_nck, e_pkt, e_pkf, e_gdtt, e_gdtf, e_gdft, e_gdff, e_ift, e_iff, e_not, e_ln, e_lnT, e_cp, e_cvi, e_ex20, e_ex21, e_ex30, e_ex31, e_ex32, e_add, e_sub, e_mul, e_quo, e_rem, e_and, e_or, e_xor, e_shl, e_shr, e_eql, e_neq, e_lss, e_leq, e_gtr, e_geq, e_beq, e_bne, e_peq1, e_peq2, e_pne1, e_pne2, e_zeq1, e_zeq2, e_zne1, e_zne2, e_feq1, e_fne1, e_feq2, e_fne2, e_seq, e_sne, e_ta1, e_ta2, Nat.zero_add, Nat.add_zero, Bool.not_true, Bool.not_false]
        have h3 := h2.kp' hk3
        refine ld1_r h3.disk rfl ?_
        refine pslice hp12 (Nat.le_refl 16) m.pb rfl rfl ?_
        have hvs : Vs U8 w3 (.slice (some ⟨p.2, 0, none⟩) 16 16) ((x.drop 0).take 16) := vs_part (hk3.row' hrow) (by rw [hxs.1]; omega) (by omega) (by omega)
        rw [List.drop_zero, List.take_of_length_le (by rw [hxs.1]; omega)] at hvs
        refine plat_cp h3 hp12 hvs hxs.1 (Nat.le_refl _) hxs.2 fun w4 h4 hk4 hz4 => ?_
        refine next w4 ?_ (hk4.row (hk3.row' r2) (fun e => by omega)) ((hk2.trans hk3.none).trans hk4)
        have : keepF s (keep.take (j + 1)) torn = upd (keepF s (keep.take j) torn) p.1 (x ++ (keepF s (keep.take j) torn p.1).drop 16) := by
          funext i
          have hd : (keepF s (keep.take j) torn p.1).drop 16 = [] := by rw [List.drop_eq_nil_iff]; have := (h3.fsec p.1 hp12).1; exact Nat.le_of_eq this
          rw [hd, List.append_nil]
          unfold upd
          by_cases e2 : i = p.1
          · subst e2
            rw [if_pos rfl]
            unfold keepF
            rw [hfr']
            simp only
            rw [if_pos ⟨by rw [hpt]; exact ht, (mem1 p.1).2 (.inr hpt)⟩]
          · rw [if_neg e2]
            unfold keepF
            cases hfi : s.fr i with
            | none => rfl
            | some y =>
              simp only
              by_cases q : (i : Int) ≠ torn ∧ (i : Int) ∈ keep.take j
              · rw [if_pos q, if_pos ⟨q.1, (mem1 i).2 (.inl q.2)⟩]
              · rw [if_neg q, if_neg]
                rintro ⟨q1, q2⟩
                rcases (mem1 i).1 q2 with q2 | q2
                · exact q ⟨q1, q2⟩
                · exact e2 (by omega)
        rw [this]; exact h4
  · have hlt' : ¬ (j : Int) < (keep.length : Int) := by omega
    simp only [hlt', decide_false, e_fd, e_nck, e_pkt, e_pkf, e_gdtt, e_gdtf, e_gdft, e_gdff, e_ift, e_iff, e_not, e_ln, e_lnT, e_cp, e_cvi, e_ex20, e_ex21, e_ex30, e_ex31, e_ex32, e_add, e_sub, e_mul, e_quo, e_rem, e_and, e_or, e_xor, e_shl, e_shr, e_eql, e_neq, e_lss, e_leq, e_gtr, e_geq, e_beq, e_bne, e_peq1, e_peq2, e_pne1, e_pne2, e_zeq1, e_zeq2, e_zne1, e_zne2, e_feq1, e_fne1, e_feq2, e_fne2, e_seq, e_sne, e_ta1, e_ta2, Nat.zero_add, Nat.add_zero, Bool.not_true, Bool.not_false]
    rw [List.take_of_length_le (by omega)] at h2
    exact tearing w2 r2 h2 (Stp.of hk2 fun b _ q => .inr (.inl q))
end Go.Proofs.Qxb6500895a
