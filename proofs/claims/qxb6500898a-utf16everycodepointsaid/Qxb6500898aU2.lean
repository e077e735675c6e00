import Derived.Test.Qxb6500898aU1
namespace Go.Proofs.Qxb6500898a
open Go.Sh Go.RowKit
set_option linter.unusedVariables false
set_option linter.unusedSimpArgs false

/-- a slice of octets, anywhere -/
structure Bs (w : World) (v : Value) (xs : List Int) : Prop where
  by_ : ∀ x ∈ xs, 0 ≤ x ∧ x ≤ 255
  at_ : (v = .slice none 0 0 ∧ xs = []) ∨ (∃ a cap, v = .slice (some a) 0 cap ∧ xs = []) ∨ ∃ b o cap, v = .slice (some ⟨b, o, none⟩) xs.length cap ∧ xs.length ≤ cap ∧ xs.length ≤ 9223372036854775807 ∧ Cells w b o (xs.map U8)

section
variable {w w' : World} {v : Value} {xs : List Int} {K : Value → World → Prop}
theorem Bs.kp' (h : Bs w v xs) (hk : Kp (fun _ => False) w w') : Bs w' v xs := by
  refine ⟨h.by_, ?_⟩
  rcases h.at_ with q | q | ⟨b, o, cap, h1, h2, h4, h3⟩
  · exact .inl q
  · exact .inr (.inl q)
  · exact .inr (.inr ⟨b, o, cap, h1, h2, h4, h3.kp' hk⟩)
theorem Bs.ln (h : Bs w v xs) (hK : K (I xs.length) w) : lnS v K w := by
  rcases h.at_ with ⟨rfl, rfl⟩ | ⟨a, cap, rfl, rfl⟩ | ⟨b, o, cap, rfl, _⟩
  · exact hK
  · exact hK
  · exact hK
theorem Bs.get (h : Bs w v xs) {i : Nat} (hi : i < xs.length) : 0 ≤ xs[i] ∧ xs[i] ≤ 255 := h.by_ _ (List.getElem_mem hi)
theorem Bs.ix (h : Bs w v xs) {i : Nat} (hi : i < xs.length) (hK : ∀ b q, (∀ K' : Value → World → Prop, K' (U8 xs[i]) w → ld1 (.pointer (some ⟨b, q, none⟩)) K' w) → K (.pointer (some ⟨b, q, none⟩)) w) : ixs 1 v (I i) K w := by
  rcases h.at_ with ⟨rfl, rfl⟩ | ⟨a, cap, rfl, rfl⟩ | ⟨b, o, cap, rfl, _, _, hc⟩
  · simp at hi
  · simp at hi
  · refine ⟨⟨by omega, by omega⟩, ?_⟩
    have ej : ((i : Int)).toNat = i := by omega
    rw [ej, add_mk, Nat.mul_one]
    exact hK b (o + i) fun K' hk => hc.ld1 (by rw [List.getElem?_map, List.getElem?_eq_getElem hi]; rfl) hk
theorem Bs.len (h : Bs w v xs) : xs.length ≤ 9223372036854775807 := by
  rcases h.at_ with ⟨rfl, rfl⟩ | ⟨a, cap, rfl, rfl⟩ | ⟨b, o, cap, rfl, h1, h2, _⟩
  · simp
  · simp
  · omega
theorem Bs.drop (h : Bs w v xs) {n : Nat} (hn : n ≤ xs.length) (hx : 0 < xs.length) (hK : ∀ v', Bs w v' (xs.drop n) → K v' w) : sls 1 v (some (I n)) none K w := by
  rcases h.at_ with ⟨rfl, rfl⟩ | ⟨a, cap, rfl, rfl⟩ | ⟨b, o, cap, rfl, h1, h2, hc⟩
  · simp at hx
  · simp at hx
  · refine ⟨⟨by omega, by omega, by omega⟩, ?_⟩
    have e0 : ((n : Int)).toNat = n := by omega
    have e1 : ((xs.length : Int)).toNat = xs.length := by omega
    simp only [e0]
    refine hK _ ⟨fun x hx => h.by_ x (List.mem_of_mem_drop hx), .inr (.inr ?_)⟩
    by_cases hcn : cap = n
    · rw [if_pos hcn]
      refine ⟨b, o, cap - n, ?_, by rw [List.length_drop]; omega, by rw [List.length_drop]; omega, ?_⟩
      · rw [List.length_drop]; congr 1
      · intro j hj
        rw [List.length_map, List.length_drop] at hj
        omega
    · rw [if_neg hcn]
      refine ⟨b, o + n, cap - n, ?_, by rw [List.length_drop]; omega, by rw [List.length_drop]; omega, ?_⟩
      · rw [List.length_drop, Option.map_some, add_mk, Nat.mul_one]; congr 1
      · intro j hj
        rw [List.length_map, List.length_drop] at hj
        rw [Nat.add_assoc, hc (n + j) (by rw [List.length_map]; omega), List.getElem?_map, List.getElem?_map, List.getElem?_drop]
theorem Bs.take (h : Bs w v xs) {n : Nat} (hn : n ≤ xs.length) (hx : 0 < xs.length) (hK : ∀ v', Bs w v' (xs.take n) → K v' w) : sls 1 v none (some (I n)) K w := by
  rcases h.at_ with ⟨rfl, rfl⟩ | ⟨a, cap, rfl, rfl⟩ | ⟨b, o, cap, rfl, h1, h2, hc⟩
  · simp at hx
  · simp at hx
  · refine ⟨⟨by omega, by omega, by omega⟩, ?_⟩
    have e0 : ((n : Int)).toNat = n := by omega
    have e1 : (if cap = ((0 : Nat) : Int).toNat then (some (⟨b, o, none⟩ : Addr)) else (some (⟨b, o, none⟩ : Addr)).map (·.add (((0 : Nat) : Int).toNat * 1))) = some ⟨b, o, none⟩ := by
      split
      · rfl
      · show some ((⟨b, o, none⟩ : Addr).add (0 * 1)) = _; rw [add_mk]; simp
    rw [e1]
    refine hK _ ⟨fun x hx => h.by_ x (List.mem_of_mem_take hx), .inr (.inr ⟨b, o, cap, ?_, by rw [List.length_take]; omega, by rw [List.length_take]; omega, ?_⟩)⟩
    · rw [List.length_take, e0]
      have : min n xs.length = n := by omega
      rw [this]
      rfl
    · intro j hj
      rw [List.length_map, List.length_take] at hj
      rw [hc j (by rw [List.length_map]; omega), List.getElem?_map, List.getElem?_map, List.getElem?_take_of_lt (by omega)]
end

/-- octets in a block of their own -/
theorem bs_new {w : World} {b cap : Nat} {xs : List Int} {junk : List Value} (hb : ∀ x ∈ xs, 0 ≤ x ∧ x ≤ 255) (hr : Row w b 5 (xs.map U8 ++ junk)) (hc : xs.length ≤ cap) (hc2 : cap ≤ 9223372036854775807) : Bs w (.slice (some ⟨b, 0, none⟩) xs.length cap) xs := by
  refine ⟨hb, .inr (.inr ⟨b, 0, cap, rfl, hc, by omega, ?_⟩)⟩
  intro j hj
  rw [hr.cell, Nat.zero_add, List.getElem?_append_left hj]

theorem same_ok {w : World} {v1 v2 : Value} {xs ys : List Int} {K : Value → World → Prop} (h1 : Bs w v1 xs) (h2 : Bs w v2 ys) (hK : ∀ w', Kp (fun _ => False) w w' → K (.bool (decide (xs = ys))) w') : cl Try.prog 18 #[v1, v2] K w := by
  have hl1 := h1.len
  apply c18
  unfold s18_p8
  refine h1.ln ?_
  refine h2.ln ?_
  try simp only [e_fd, e_nck, e_pkt, e_pkf, e_gdtt, e_gdtf, e_gdft, e_gdff, e_ift, e_iff, e_not, e_ln, e_lnT, e_cp, e_cvi, e_ex20, e_ex21, e_ex30, e_ex31, e_ex32, e_add, e_sub, e_mul, e_quo, e_rem, e_and, e_or, e_xor, e_shl, e_shr, e_eql, e_neq, e_lss, e_leq, e_gtr, e_geq, e_beq, e_bne, e_peq1, e_peq2, e_pne1, e_pne2, e_zeq1, e_zeq2, e_zne1, e_zne2, e_feq1, e_fne1, e_feq2, e_fne2, e_seq, e_sne, e_ta1, e_ta2, Nat.zero_add, Nat.add_zero, Bool.not_true, Bool.not_false]
  by_cases hl : xs.length = ys.length
  · have e : ((xs.length : Int) != (ys.length : Int)) = false := by rw [hl]; simp
    simp only [e, e_fd, e_nck, e_pkt, e_pkf, e_gdtt, e_gdtf, e_gdft, e_gdff, e_ift, e_iff, e_not, e_ln, e_lnT, e_cp, e_cvi, e_ex20, e_ex21, e_ex30, e_ex31, e_ex32, e_add, e_sub, e_mul, e_quo, e_rem, e_and, e_or, e_xor, e_shl, e_shr, e_eql, e_neq, e_lss, e_leq, e_gtr, e_geq, e_beq, e_bne, e_peq1, e_peq2, e_pne1, e_pne2, e_zeq1, e_zeq2, e_zne1, e_zne2, e_feq1, e_fne1, e_feq2, e_fne2, e_seq, e_sne, e_ta1, e_ta2, Nat.zero_add, Nat.add_zero, Bool.not_true, Bool.not_false]
    refine h1.ln ?_
    refine ⟨fun m l w' => ∃ j : Nat, j ≤ xs.length ∧ m = xs.length - j ∧ l = [v1, v2, I xs.length, I j] ∧ Kp (fun _ => False) w w' ∧ xs.take j = ys.take j,
      xs.length, ⟨0, by omega, by omega, rfl, Kp.refl _ _, rfl⟩, ?_⟩
    rintro m l w1 ⟨j, hj, hm, rfl, hk1, heq⟩
    rw [s18_p7_Fe]
    unfold s18_p6
    try simp only [e_fd, e_nck, e_pkt, e_pkf, e_gdtt, e_gdtf, e_gdft, e_gdff, e_ift, e_iff, e_not, e_ln, e_lnT, e_cp, e_cvi, e_ex20, e_ex21, e_ex30, e_ex31, e_ex32, e_add, e_sub, e_mul, e_quo, e_rem, e_and, e_or, e_xor, e_shl, e_shr, e_eql, e_neq, e_lss, e_leq, e_gtr, e_geq, e_beq, e_bne, e_peq1, e_peq2, e_pne1, e_pne2, e_zeq1, e_zeq2, e_zne1, e_zne2, e_feq1, e_fne1, e_feq2, e_fne2, e_seq, e_sne, e_ta1, e_ta2, Nat.zero_add, Nat.add_zero, Bool.not_true, Bool.not_false]
    by_cases hlt : j < xs.length
    · have hlt' : (j : Int) < (xs.length : Int) := by omega
      simp only [hlt', decide_true, e_fd, e_nck, e_pkt, e_pkf, e_gdtt, e_gdtf, e_gdft, e_gdff, e_ift, e_iff, e_not, e_ln, e_lnT, e_cp, e_cvi, e_ex20, e_ex21, e_ex30, e_ex31, e_ex32, e_add, e_sub, e_mul, e_quo, e_rem, e_and, e_or, e_xor, e_shl, e_shr, e_eql, e_neq, e_lss, e_leq, e_gtr, e_geq, e_beq, e_bne, e_peq1, e_peq2, e_pne1, e_pne2, e_zeq1, e_zeq2, e_zne1, e_zne2, e_feq1, e_fne1, e_feq2, e_fne2, e_seq, e_sne, e_ta1, e_ta2, Nat.zero_add, Nat.add_zero, Bool.not_true, Bool.not_false]
      have hly : j < ys.length := by omega
      unfold s18_p5 s18_p4 s18_p4_d
      have hkd : Kp (fun _ => False) w (drw w1) := hk1.trans kp_drw
      refine (h1.kp' hkd).ix hlt fun b q hld => hld _ ?_
      refine (h2.kp' hkd).ix hly fun b q hld => hld _ ?_
      try simp only [e_fd, e_nck, e_pkt, e_pkf, e_gdtt, e_gdtf, e_gdft, e_gdff, e_ift, e_iff, e_not, e_ln, e_lnT, e_cp, e_cvi, e_ex20, e_ex21, e_ex30, e_ex31, e_ex32, e_add, e_sub, e_mul, e_quo, e_rem, e_and, e_or, e_xor, e_shl, e_shr, e_eql, e_neq, e_lss, e_leq, e_gtr, e_geq, e_beq, e_bne, e_peq1, e_peq2, e_pne1, e_pne2, e_zeq1, e_zeq2, e_zne1, e_zne2, e_feq1, e_fne1, e_feq2, e_fne2, e_seq, e_sne, e_ta1, e_ta2, Nat.zero_add, Nat.add_zero, Bool.not_true, Bool.not_false]
      unfold s18_p3
      by_cases hx : xs[j] = ys[j]
      · have e : (xs[j] != ys[j]) = false := by simpa using hx
        simp only [e, e_fd, e_nck, e_pkt, e_pkf, e_gdtt, e_gdtf, e_gdft, e_gdff, e_ift, e_iff, e_not, e_ln, e_lnT, e_cp, e_cvi, e_ex20, e_ex21, e_ex30, e_ex31, e_ex32, e_add, e_sub, e_mul, e_quo, e_rem, e_and, e_or, e_xor, e_shl, e_shr, e_eql, e_neq, e_lss, e_leq, e_gtr, e_geq, e_beq, e_bne, e_peq1, e_peq2, e_pne1, e_pne2, e_zeq1, e_zeq2, e_zne1, e_zne2, e_feq1, e_fne1, e_feq2, e_fne2, e_seq, e_sne, e_ta1, e_ta2, Nat.zero_add, Nat.add_zero, Bool.not_true, Bool.not_false]
        unfold s18_p2
        try simp only [e_fd, e_nck, e_pkt, e_pkf, e_gdtt, e_gdtf, e_gdft, e_gdff, e_ift, e_iff, e_not, e_ln, e_lnT, e_cp, e_cvi, e_ex20, e_ex21, e_ex30, e_ex31, e_ex32, e_add, e_sub, e_mul, e_quo, e_rem, e_and, e_or, e_xor, e_shl, e_shr, e_eql, e_neq, e_lss, e_leq, e_gtr, e_geq, e_beq, e_bne, e_peq1, e_peq2, e_pne1, e_pne2, e_zeq1, e_zeq2, e_zne1, e_zne2, e_feq1, e_fne1, e_feq2, e_fne2, e_seq, e_sne, e_ta1, e_ta2, Nat.zero_add, Nat.add_zero, Bool.not_true, Bool.not_false]
        rw [wrap64_id (by omega) (by omega)]
        refine ⟨xs.length - (j + 1), by omega, j + 1, by omega, rfl, by simp, hkd, ?_⟩
        rw [List.take_succ_eq_append_getElem hlt, List.take_succ_eq_append_getElem hly, heq, hx]
      · have e : (xs[j] != ys[j]) = true := by simpa using hx
        simp only [e, e_fd, e_nck, e_pkt, e_pkf, e_gdtt, e_gdtf, e_gdft, e_gdff, e_ift, e_iff, e_not, e_ln, e_lnT, e_cp, e_cvi, e_ex20, e_ex21, e_ex30, e_ex31, e_ex32, e_add, e_sub, e_mul, e_quo, e_rem, e_and, e_or, e_xor, e_shl, e_shr, e_eql, e_neq, e_lss, e_leq, e_gtr, e_geq, e_beq, e_bne, e_peq1, e_peq2, e_pne1, e_pne2, e_zeq1, e_zeq2, e_zne1, e_zne2, e_feq1, e_fne1, e_feq2, e_fne2, e_seq, e_sne, e_ta1, e_ta2, Nat.zero_add, Nat.add_zero, Bool.not_true, Bool.not_false]
        have : ¬ xs = ys := fun e => hx (by simp [e])
        have hK := hK _ hkd
        rw [decide_eq_false this] at hK
        exact hK
    · have hlt' : ¬ (j : Int) < (xs.length : Int) := by omega
      simp only [hlt', decide_false, e_fd, e_nck, e_pkt, e_pkf, e_gdtt, e_gdtf, e_gdft, e_gdff, e_ift, e_iff, e_not, e_ln, e_lnT, e_cp, e_cvi, e_ex20, e_ex21, e_ex30, e_ex31, e_ex32, e_add, e_sub, e_mul, e_quo, e_rem, e_and, e_or, e_xor, e_shl, e_shr, e_eql, e_neq, e_lss, e_leq, e_gtr, e_geq, e_beq, e_bne, e_peq1, e_peq2, e_pne1, e_pne2, e_zeq1, e_zeq2, e_zne1, e_zne2, e_feq1, e_fne1, e_feq2, e_fne2, e_seq, e_sne, e_ta1, e_ta2, Nat.zero_add, Nat.add_zero, Bool.not_true, Bool.not_false]
      unfold s18_p1
      rw [List.take_of_length_le (by omega), List.take_of_length_le (by omega)] at heq
      have hK := hK w1 hk1
      rw [decide_eq_true heq] at hK
      exact hK
  · have e : ((xs.length : Int) != (ys.length : Int)) = true := by simp; omega
    simp only [e, e_fd, e_nck, e_pkt, e_pkf, e_gdtt, e_gdtf, e_gdft, e_gdff, e_ift, e_iff, e_not, e_ln, e_lnT, e_cp, e_cvi, e_ex20, e_ex21, e_ex30, e_ex31, e_ex32, e_add, e_sub, e_mul, e_quo, e_rem, e_and, e_or, e_xor, e_shl, e_shr, e_eql, e_neq, e_lss, e_leq, e_gtr, e_geq, e_beq, e_bne, e_peq1, e_peq2, e_pne1, e_pne2, e_zeq1, e_zeq2, e_zne1, e_zne2, e_feq1, e_fne1, e_feq2, e_fne2, e_seq, e_sne, e_ta1, e_ta2, Nat.zero_add, Nat.add_zero, Bool.not_true, Bool.not_false]
    have : ¬ xs = ys := fun e => hl (by rw [e])
    have hK := hK w (Kp.refl _ _)
    rw [decide_eq_false this] at hK
    exact hK

theorem tail_ok {w : World} {x : Int} {K : Value → World → Prop} (h0 : 0 ≤ x) (h1 : x ≤ 255) (hK : K (.bool (decide (128 ≤ x ∧ x < 192))) w) : cl Try.prog 105 #[U8 x] K w := by
  apply c105
  unfold s105_p1
  simp only [e_and, e_eql]
  rw [and192 h0 h1]
  exact hK

abbrev isSc (cp : Int) : Prop := 0 ≤ cp ∧ cp ≤ 1114111 ∧ (cp < 55296 ∨ 57343 < cp)
theorem isSc_ok {w : World} {cp : Int} {K : Value → World → Prop} (hK : K (.bool (decide (isSc cp))) w) : cl Try.prog 30 #[I cp] K w := by
  apply c30
  unfold s30_p1
  try simp only [e_fd, e_nck, e_pkt, e_pkf, e_gdtt, e_gdtf, e_gdft, e_gdff, e_ift, e_iff, e_not, e_ln, e_lnT, e_cp, e_cvi, e_ex20, e_ex21, e_ex30, e_ex31, e_ex32, e_add, e_sub, e_mul, e_quo, e_rem, e_and, e_or, e_xor, e_shl, e_shr, e_eql, e_neq, e_lss, e_leq, e_gtr, e_geq, e_beq, e_bne, e_peq1, e_peq2, e_pne1, e_pne2, e_zeq1, e_zeq2, e_zne1, e_zne2, e_feq1, e_fne1, e_feq2, e_fne2, e_seq, e_sne, e_ta1, e_ta2, Nat.zero_add, Nat.add_zero, Bool.not_true, Bool.not_false]
  have val : ∀ b : Bool, (b = true ↔ isSc cp) → K (.bool b) w := by
    intro b hb
    have : decide (isSc cp) = b := by
      cases b with
      | true => exact decide_eq_true (hb.1 rfl)
      | false => exact decide_eq_false (fun q => by have := hb.2 q; cases this)
    rw [this] at hK; exact hK
  by_cases h1 : cp < 0
  · simp only [h1, decide_true, e_fd, e_nck, e_pkt, e_pkf, e_gdtt, e_gdtf, e_gdft, e_gdff, e_ift, e_iff, e_not, e_ln, e_lnT, e_cp, e_cvi, e_ex20, e_ex21, e_ex30, e_ex31, e_ex32, e_add, e_sub, e_mul, e_quo, e_rem, e_and, e_or, e_xor, e_shl, e_shr, e_eql, e_neq, e_lss, e_leq, e_gtr, e_geq, e_beq, e_bne, e_peq1, e_peq2, e_pne1, e_pne2, e_zeq1, e_zeq2, e_zne1, e_zne2, e_feq1, e_fne1, e_feq2, e_fne2, e_seq, e_sne, e_ta1, e_ta2, Nat.zero_add, Nat.add_zero, Bool.not_true, Bool.not_false]
    exact val false (by unfold isSc; simp; omega)
  · simp only [h1, decide_false, e_fd, e_nck, e_pkt, e_pkf, e_gdtt, e_gdtf, e_gdft, e_gdff, e_ift, e_iff, e_not, e_ln, e_lnT, e_cp, e_cvi, e_ex20, e_ex21, e_ex30, e_ex31, e_ex32, e_add, e_sub, e_mul, e_quo, e_rem, e_and, e_or, e_xor, e_shl, e_shr, e_eql, e_neq, e_lss, e_leq, e_gtr, e_geq, e_beq, e_bne, e_peq1, e_peq2, e_pne1, e_pne2, e_zeq1, e_zeq2, e_zne1, e_zne2, e_feq1, e_fne1, e_feq2, e_fne2, e_seq, e_sne, e_ta1, e_ta2, Nat.zero_add, Nat.add_zero, Bool.not_true, Bool.not_false]
    by_cases h2 : 1114111 < cp
    · simp only [h2, decide_true, e_fd, e_nck, e_pkt, e_pkf, e_gdtt, e_gdtf, e_gdft, e_gdff, e_ift, e_iff, e_not, e_ln, e_lnT, e_cp, e_cvi, e_ex20, e_ex21, e_ex30, e_ex31, e_ex32, e_add, e_sub, e_mul, e_quo, e_rem, e_and, e_or, e_xor, e_shl, e_shr, e_eql, e_neq, e_lss, e_leq, e_gtr, e_geq, e_beq, e_bne, e_peq1, e_peq2, e_pne1, e_pne2, e_zeq1, e_zeq2, e_zne1, e_zne2, e_feq1, e_fne1, e_feq2, e_fne2, e_seq, e_sne, e_ta1, e_ta2, Nat.zero_add, Nat.add_zero, Bool.not_true, Bool.not_false]
      exact val false (by unfold isSc; simp; omega)
    · simp only [h2, decide_false, e_fd, e_nck, e_pkt, e_pkf, e_gdtt, e_gdtf, e_gdft, e_gdff, e_ift, e_iff, e_not, e_ln, e_lnT, e_cp, e_cvi, e_ex20, e_ex21, e_ex30, e_ex31, e_ex32, e_add, e_sub, e_mul, e_quo, e_rem, e_and, e_or, e_xor, e_shl, e_shr, e_eql, e_neq, e_lss, e_leq, e_gtr, e_geq, e_beq, e_bne, e_peq1, e_peq2, e_pne1, e_pne2, e_zeq1, e_zeq2, e_zne1, e_zne2, e_feq1, e_fne1, e_feq2, e_fne2, e_seq, e_sne, e_ta1, e_ta2, Nat.zero_add, Nat.add_zero, Bool.not_true, Bool.not_false]
      by_cases h3 : cp < 55296
      · simp only [h3, decide_true, e_fd, e_nck, e_pkt, e_pkf, e_gdtt, e_gdtf, e_gdft, e_gdff, e_ift, e_iff, e_not, e_ln, e_lnT, e_cp, e_cvi, e_ex20, e_ex21, e_ex30, e_ex31, e_ex32, e_add, e_sub, e_mul, e_quo, e_rem, e_and, e_or, e_xor, e_shl, e_shr, e_eql, e_neq, e_lss, e_leq, e_gtr, e_geq, e_beq, e_bne, e_peq1, e_peq2, e_pne1, e_pne2, e_zeq1, e_zeq2, e_zne1, e_zne2, e_feq1, e_fne1, e_feq2, e_fne2, e_seq, e_sne, e_ta1, e_ta2, Nat.zero_add, Nat.add_zero, Bool.not_true, Bool.not_false]
        exact val true (by unfold isSc; simp; omega)
      · simp only [h3, decide_false, e_fd, e_nck, e_pkt, e_pkf, e_gdtt, e_gdtf, e_gdft, e_gdff, e_ift, e_iff, e_not, e_ln, e_lnT, e_cp, e_cvi, e_ex20, e_ex21, e_ex30, e_ex31, e_ex32, e_add, e_sub, e_mul, e_quo, e_rem, e_and, e_or, e_xor, e_shl, e_shr, e_eql, e_neq, e_lss, e_leq, e_gtr, e_geq, e_beq, e_bne, e_peq1, e_peq2, e_pne1, e_pne2, e_zeq1, e_zeq2, e_zne1, e_zne2, e_feq1, e_fne1, e_feq2, e_fne2, e_seq, e_sne, e_ta1, e_ta2, Nat.zero_add, Nat.add_zero, Bool.not_true, Bool.not_false]
        refine val _ ?_
        unfold isSc
        rw [decide_eq_true_eq]
        omega

def sp8 (cp : Int) : List Int :=
  if cp < 128 then [cp] else if cp < 2048 then [192 + cp / 64, 128 + cp % 64] else if cp < 65536 then [224 + cp / 4096, 128 + cp / 64 % 64, 128 + cp % 64]
  else [240 + cp / 262144, 128 + cp / 4096 % 64, 128 + cp / 64 % 64, 128 + cp % 64]
theorem tdiv_pos {m n : Int} (h : 0 ≤ m) : m.tdiv n = m / n := Int.tdiv_eq_ediv_of_nonneg h
theorem tmod_pos {m n : Int} (h : 0 ≤ m) : m.tmod n = m % n := Int.tmod_eq_emod_of_nonneg h

theorem sp8_by {cp : Int} (h0 : 0 ≤ cp) (h1 : cp ≤ 2097151) : ∀ x ∈ sp8 cp, 0 ≤ x ∧ x ≤ 255 := by
  unfold sp8
  intro x hx
  split at hx
  · simp at hx; omega
  split at hx
  · simp at hx; omega
  split at hx
  · simp at hx; omega
  · simp at hx; omega
theorem sp8_len (cp : Int) : 1 ≤ (sp8 cp).length ∧ (sp8 cp).length ≤ 4 := by
  unfold sp8
  split
  · simp
  split
  · simp
  split
  · simp
  · simp

theorem spell8_ok {w : World} {cp : Int} {K : Value → World → Prop} (h0 : 0 ≤ cp) (h1 : cp ≤ 2097151) (hK : ∀ w' v, Bs w' v (sp8 cp) → Kp (fun _ => False) w w' → K v w') : cl Try.prog 29 #[I cp] K w := by
  have hby := sp8_by h0 h1
  apply c29
  unfold s29_p1
  try simp only [e_fd, e_nck, e_pkt, e_pkf, e_gdtt, e_gdtf, e_gdft, e_gdff, e_ift, e_iff, e_not, e_ln, e_lnT, e_cp, e_cvi, e_ex20, e_ex21, e_ex30, e_ex31, e_ex32, e_add, e_sub, e_mul, e_quo, e_rem, e_and, e_or, e_xor, e_shl, e_shr, e_eql, e_neq, e_lss, e_leq, e_gtr, e_geq, e_beq, e_bne, e_peq1, e_peq2, e_pne1, e_pne2, e_zeq1, e_zeq2, e_zne1, e_zne2, e_feq1, e_fne1, e_feq2, e_fne2, e_seq, e_sne, e_ta1, e_ta2, Nat.zero_add, Nat.add_zero, Bool.not_true, Bool.not_false]
  have fin : ∀ (n : Nat) (l : List Value) (ps : List (Option (Nat × Nat) × Value)), n = (sp8 cp).length → l = (sp8 cp).map U8 → fillL (zrep [(.int .u8 0)] (n * [Value.int .u8 0].length)) ps = some l → bsq 5 [(.int .u8 0)] n ps (fun t w => K t w) w := by
    intro n l ps hn hl hf
    refine bsq_r hf fun w1 r1 hb1 hz1 => ?_
    subst hn hl
    refine hK w1 _ (bs_new (junk := []) hby (by rw [List.append_nil]; exact r1) (Nat.le_refl _) ?_) hb1
    have := (sp8_len cp).2
    omega
  unfold sp8 at fin
  by_cases c1 : cp < 128
  · simp only [c1, decide_true, e_fd, e_nck, e_pkt, e_pkf, e_gdtt, e_gdtf, e_gdft, e_gdff, e_ift, e_iff, e_not, e_ln, e_lnT, e_cp, e_cvi, e_ex20, e_ex21, e_ex30, e_ex31, e_ex32, e_add, e_sub, e_mul, e_quo, e_rem, e_and, e_or, e_xor, e_shl, e_shr, e_eql, e_neq, e_lss, e_leq, e_gtr, e_geq, e_beq, e_bne, e_peq1, e_peq2, e_pne1, e_pne2, e_zeq1, e_zeq2, e_zne1, e_zne2, e_feq1, e_fne1, e_feq2, e_fne2, e_seq, e_sne, e_ta1, e_ta2, Nat.zero_add, Nat.add_zero, Bool.not_true, Bool.not_false]
    rw [wrapu8]
    have e : cp % 256 = cp := by omega
    rw [e]
    simp only [if_pos c1] at fin
    exact fin 1 _ _ rfl rfl rfl
  · simp only [c1, decide_false, e_fd, e_nck, e_pkt, e_pkf, e_gdtt, e_gdtf, e_gdft, e_gdff, e_ift, e_iff, e_not, e_ln, e_lnT, e_cp, e_cvi, e_ex20, e_ex21, e_ex30, e_ex31, e_ex32, e_add, e_sub, e_mul, e_quo, e_rem, e_and, e_or, e_xor, e_shl, e_shr, e_eql, e_neq, e_lss, e_leq, e_gtr, e_geq, e_beq, e_bne, e_peq1, e_peq2, e_pne1, e_pne2, e_zeq1, e_zeq2, e_zne1, e_zne2, e_feq1, e_fne1, e_feq2, e_fne2, e_seq, e_sne, e_ta1, e_ta2, Nat.zero_add, Nat.add_zero, Bool.not_true, Bool.not_false]
    simp only [if_neg c1] at fin
    by_cases c2 : cp < 2048
    · simp only [c2, decide_true, e_fd, e_nck, e_pkt, e_pkf, e_gdtt, e_gdtf, e_gdft, e_gdff, e_ift, e_iff, e_not, e_ln, e_lnT, e_cp, e_cvi, e_ex20, e_ex21, e_ex30, e_ex31, e_ex32, e_add, e_sub, e_mul, e_quo, e_rem, e_and, e_or, e_xor, e_shl, e_shr, e_eql, e_neq, e_lss, e_leq, e_gtr, e_geq, e_beq, e_bne, e_peq1, e_peq2, e_pne1, e_pne2, e_zeq1, e_zeq2, e_zne1, e_zne2, e_feq1, e_fne1, e_feq2, e_fne2, e_seq, e_sne, e_ta1, e_ta2, Nat.zero_add, Nat.add_zero, Bool.not_true, Bool.not_false]
      refine ⟨by decide, by decide, ?_⟩
      simp only [tdiv_pos h0, tmod_pos h0, wrapu8]
      rw [wrap64_id (n := cp / 64) (by omega) (by omega), wrap64_id (n := 192 + cp / 64) (by omega) (by omega), wrap64_id (n := 128 + cp % 64) (by omega) (by omega)]
      rw [show (192 + cp / 64) % 256 = 192 + cp / 64 by omega, show (128 + cp % 64) % 256 = 128 + cp % 64 by omega]
      simp only [if_pos c2] at fin
      exact fin 2 _ _ rfl rfl rfl
    · simp only [c2, decide_false, e_fd, e_nck, e_pkt, e_pkf, e_gdtt, e_gdtf, e_gdft, e_gdff, e_ift, e_iff, e_not, e_ln, e_lnT, e_cp, e_cvi, e_ex20, e_ex21, e_ex30, e_ex31, e_ex32, e_add, e_sub, e_mul, e_quo, e_rem, e_and, e_or, e_xor, e_shl, e_shr, e_eql, e_neq, e_lss, e_leq, e_gtr, e_geq, e_beq, e_bne, e_peq1, e_peq2, e_pne1, e_pne2, e_zeq1, e_zeq2, e_zne1, e_zne2, e_feq1, e_fne1, e_feq2, e_fne2, e_seq, e_sne, e_ta1, e_ta2, Nat.zero_add, Nat.add_zero, Bool.not_true, Bool.not_false]
      simp only [if_neg c2] at fin
      by_cases c3 : cp < 65536
      · simp only [c3, decide_true, e_fd, e_nck, e_pkt, e_pkf, e_gdtt, e_gdtf, e_gdft, e_gdff, e_ift, e_iff, e_not, e_ln, e_lnT, e_cp, e_cvi, e_ex20, e_ex21, e_ex30, e_ex31, e_ex32, e_add, e_sub, e_mul, e_quo, e_rem, e_and, e_or, e_xor, e_shl, e_shr, e_eql, e_neq, e_lss, e_leq, e_gtr, e_geq, e_beq, e_bne, e_peq1, e_peq2, e_pne1, e_pne2, e_zeq1, e_zeq2, e_zne1, e_zne2, e_feq1, e_fne1, e_feq2, e_fne2, e_seq, e_sne, e_ta1, e_ta2, Nat.zero_add, Nat.add_zero, Bool.not_true, Bool.not_false]
        refine ⟨by decide, by decide, by decide, by decide, ?_⟩
        simp only [tdiv_pos h0, tmod_pos h0, wrapu8]
        rw [wrap64_id (n := cp / 64) (by omega) (by omega)]
        rw [tmod_pos (show 0 ≤ cp / 64 by omega)]
        rw [wrap64_id (n := cp / 4096) (by omega) (by omega), wrap64_id (n := 224 + cp / 4096) (by omega) (by omega), wrap64_id (n := 128 + cp / 64 % 64) (by omega) (by omega), wrap64_id (n := 128 + cp % 64) (by omega) (by omega)]
        rw [show (224 + cp / 4096) % 256 = 224 + cp / 4096 by omega, show (128 + cp / 64 % 64) % 256 = 128 + cp / 64 % 64 by omega, show (128 + cp % 64) % 256 = 128 + cp % 64 by omega]
        simp only [if_pos c3] at fin
        exact fin 3 _ _ rfl rfl rfl
      · simp only [c3, decide_false, e_fd, e_nck, e_pkt, e_pkf, e_gdtt, e_gdtf, e_gdft, e_gdff, e_ift, e_iff, e_not, e_ln, e_lnT, e_cp, e_cvi, e_ex20, e_ex21, e_ex30, e_ex31, e_ex32, e_add, e_sub, e_mul, e_quo, e_rem, e_and, e_or, e_xor, e_shl, e_shr, e_eql, e_neq, e_lss, e_leq, e_gtr, e_geq, e_beq, e_bne, e_peq1, e_peq2, e_pne1, e_pne2, e_zeq1, e_zeq2, e_zne1, e_zne2, e_feq1, e_fne1, e_feq2, e_fne2, e_seq, e_sne, e_ta1, e_ta2, Nat.zero_add, Nat.add_zero, Bool.not_true, Bool.not_false]
        simp only [if_neg c3] at fin
        refine ⟨by decide, by decide, by decide, by decide, by decide, by decide, ?_⟩
        simp only [tdiv_pos h0, tmod_pos h0, wrapu8]
        rw [wrap64_id (n := cp / 64) (by omega) (by omega), wrap64_id (n := cp / 4096) (by omega) (by omega)]
        rw [tmod_pos (show 0 ≤ cp / 64 by omega), tmod_pos (show 0 ≤ cp / 4096 by omega)]
        rw [wrap64_id (n := cp / 262144) (by omega) (by omega), wrap64_id (n := 240 + cp / 262144) (by omega) (by omega), wrap64_id (n := 128 + cp / 4096 % 64) (by omega) (by omega), wrap64_id (n := 128 + cp / 64 % 64) (by omega) (by omega), wrap64_id (n := 128 + cp % 64) (by omega) (by omega)]
        rw [show (240 + cp / 262144) % 256 = 240 + cp / 262144 by omega, show (128 + cp / 4096 % 64) % 256 = 128 + cp / 4096 % 64 by omega, show (128 + cp / 64 % 64) % 256 = 128 + cp / 64 % 64 by omega, show (128 + cp % 64) % 256 = 128 + cp % 64 by omega]
        exact fin 4 _ _ rfl rfl rfl

def sp16 (cp : Int) : List Int := if cp < 65536 then [cp] else [55296 + (cp - 65536) / 1024, 56320 + (cp - 65536) % 1024]
def i1 (n : Int) : List Value := [I n]
theorem spell16_ok {w : World} {cp : Int} {K : Value → World → Prop} (h0 : 0 ≤ cp) (h1 : cp ≤ 2097151) (hK : ∀ w' v b, Sl i1 1 w' 3 (some b) v (sp16 cp) → Kp (fun _ => False) w w' → w.heap.size ≤ b → K v w') : cl Try.prog 31 #[I cp] K w := by
  apply c31
  unfold s31_p1
  try simp only [e_fd, e_nck, e_pkt, e_pkf, e_gdtt, e_gdtf, e_gdft, e_gdff, e_ift, e_iff, e_not, e_ln, e_lnT, e_cp, e_cvi, e_ex20, e_ex21, e_ex30, e_ex31, e_ex32, e_add, e_sub, e_mul, e_quo, e_rem, e_and, e_or, e_xor, e_shl, e_shr, e_eql, e_neq, e_lss, e_leq, e_gtr, e_geq, e_beq, e_bne, e_peq1, e_peq2, e_pne1, e_pne2, e_zeq1, e_zeq2, e_zne1, e_zne2, e_feq1, e_fne1, e_feq2, e_fne2, e_seq, e_sne, e_ta1, e_ta2, Nat.zero_add, Nat.add_zero, Bool.not_true, Bool.not_false]
  by_cases c1 : cp < 65536
  · simp only [c1, decide_true, e_fd, e_nck, e_pkt, e_pkf, e_gdtt, e_gdtf, e_gdft, e_gdff, e_ift, e_iff, e_not, e_ln, e_lnT, e_cp, e_cvi, e_ex20, e_ex21, e_ex30, e_ex31, e_ex32, e_add, e_sub, e_mul, e_quo, e_rem, e_and, e_or, e_xor, e_shl, e_shr, e_eql, e_neq, e_lss, e_leq, e_gtr, e_geq, e_beq, e_bne, e_peq1, e_peq2, e_pne1, e_pne2, e_zeq1, e_zeq2, e_zne1, e_zne2, e_feq1, e_fne1, e_feq2, e_fne2, e_seq, e_sne, e_ta1, e_ta2, Nat.zero_add, Nat.add_zero, Bool.not_true, Bool.not_false]
    refine bsq_r (l := [I cp]) rfl fun w1 r1 hb1 hz1 => ?_
    refine hK w1 _ _ ⟨1, [], ?_, by simp [sp16, c1], by simp [sp16, c1], by simpa [sp16, c1, rows, i1] using r1⟩ hb1 (Nat.le_refl _)
    simp [sp16, c1]
  · simp only [c1, decide_false, e_fd, e_nck, e_pkt, e_pkf, e_gdtt, e_gdtf, e_gdft, e_gdff, e_ift, e_iff, e_not, e_ln, e_lnT, e_cp, e_cvi, e_ex20, e_ex21, e_ex30, e_ex31, e_ex32, e_add, e_sub, e_mul, e_quo, e_rem, e_and, e_or, e_xor, e_shl, e_shr, e_eql, e_neq, e_lss, e_leq, e_gtr, e_geq, e_beq, e_bne, e_peq1, e_peq2, e_pne1, e_pne2, e_zeq1, e_zeq2, e_zne1, e_zne2, e_feq1, e_fne1, e_feq2, e_fne2, e_seq, e_sne, e_ta1, e_ta2, Nat.zero_add, Nat.add_zero, Bool.not_true, Bool.not_false]
    rw [wrap64_id (n := cp - 65536) (by omega) (by omega)]
    refine ⟨by decide, by decide, ?_⟩
    rw [tdiv_pos (show 0 ≤ cp - 65536 by omega), tmod_pos (show 0 ≤ cp - 65536 by omega), wrap64_id (n := (cp - 65536) / 1024) (by omega) (by omega), wrap64_id (n := 55296 + (cp - 65536) / 1024) (by omega) (by omega), wrap64_id (n := 56320 + (cp - 65536) % 1024) (by omega) (by omega)]
    refine bsq_r (l := [I (55296 + (cp - 65536) / 1024), I (56320 + (cp - 65536) % 1024)]) rfl fun w1 r1 hb1 hz1 => ?_
    refine hK w1 _ _ ⟨2, [], ?_, by simp [sp16, c1], by simp [sp16, c1], by simpa [sp16, c1, rows, i1] using r1⟩ hb1 (Nat.le_refl _)
    simp [sp16, c1]
end Go.Proofs.Qxb6500898a
