import Derived.Test.Qxb6500898aV15
namespace Go.Proofs.Qxb6500898a
open Go.Sh Go.RowKit
set_option linter.unusedVariables false
set_option linter.unusedSimpArgs false

section
variable {W w w' w0 w2 : World} {v d t wv rv dv : Value} {ob wob wob0 : Option Nat} {mb t3 t4 b e m n : Nat} {xs ys zs : List Int} {K : Value → World → Prop} {s s' s0 : Mst} {o : Op} {S S' : Nat → Prop} {L : List Value}
/-- the head of a slice, empty ones too -/
theorem Bs.takeZ (h : Bs w v xs) {ii : Int} (hii : ii = (n : Int)) (hn : n ≤ xs.length) (hK : ∀ v', (∀ w2, Bs w2 v xs → Bs w2 v' (xs.take n)) → K v' w2) : sls 1 v none (some (.int .i64 ii)) K w2 := by
  subst hii
  rcases h.at_ with ⟨rfl, rfl⟩ | ⟨a, cap, rfl, rfl⟩ | ⟨b, o, cap, rfl, h1, h2, hc⟩
  · have : n = 0 := by simpa using hn
    subst this
    refine ⟨⟨by decide, by decide, by decide⟩, hK _ fun w2 _ => ⟨by simp, .inl ⟨rfl, by simp⟩⟩⟩
  · have : n = 0 := by simpa using hn
    subst this
    refine ⟨⟨by decide, by decide, by omega⟩, hK _ fun w2 _ => ⟨by simp, .inr (.inl ?_)⟩⟩
    by_cases hc : cap = 0
    · exact ⟨a, cap - 0, by simp [hc], by simp⟩
    · exact ⟨a.add (0 * 1), cap - 0, by simp [hc], by simp⟩
  · refine ⟨⟨by omega, by omega, by omega⟩, ?_⟩
    have e0 : ((n : Int)).toNat = n := by omega
    have e1 : (if cap = ((0 : Nat) : Int).toNat then (some (⟨b, o, none⟩ : Addr)) else (some (⟨b, o, none⟩ : Addr)).map (·.add (((0 : Nat) : Int).toNat * 1))) = some ⟨b, o, none⟩ := by
      split
      · rfl
      · show some ((⟨b, o, none⟩ : Addr).add (0 * 1)) = _; rw [add_mk]; simp
    rw [e1]
    refine hK _ fun w2 h2' => ⟨fun x hx => h.by_ x (List.mem_of_mem_take hx), ?_⟩
    have hlen : (xs.take n).length = n := by rw [List.length_take]; omega
    rcases h2'.at_ with ⟨q, _⟩ | ⟨a', c', q1, q2⟩ | ⟨b', o', c', q1, _, _, q4⟩
    · cases q
    · subst q2
      have : n = 0 := by simpa using hn
      subst this
      exact .inr (.inl ⟨_, cap, rfl, by simp⟩)
    · cases q1
      refine .inr (.inr ⟨b, o, cap, ?_, by omega, by omega, ?_⟩)
      · rw [hlen, e0]; rfl
      · intro j hj
        rw [List.length_map, hlen] at hj
        rw [q4 j (by rw [List.length_map]; omega), List.getElem?_map, List.getElem?_map, List.getElem?_take_of_lt (by omega)]
/-- the tail of a slice, empty ones too -/
theorem Bs.dropZ (h : Bs w v xs) {ii : Int} (hii : ii = (n : Int)) (hn : n ≤ xs.length) (hK : ∀ v', (∀ w2, Bs w2 v xs → Bs w2 v' (xs.drop n)) → K v' w2) : sls 1 v (some (.int .i64 ii)) none K w2 := by
  subst hii
  rcases h.at_ with ⟨rfl, rfl⟩ | ⟨a, cap, rfl, rfl⟩ | ⟨b, o, cap, rfl, h1, h2, hc⟩
  · have : n = 0 := by simpa using hn
    subst this
    refine ⟨⟨by decide, by decide, by decide⟩, hK _ fun w2 _ => ⟨by simp, .inl ⟨rfl, by simp⟩⟩⟩
  · have : n = 0 := by simpa using hn
    subst this
    refine ⟨⟨by decide, by decide, by omega⟩, hK _ fun w2 _ => ⟨by simp, .inr (.inl ?_)⟩⟩
    by_cases hc : cap = 0
    · exact ⟨a, cap - 0, by simp [hc], by simp⟩
    · exact ⟨a.add (0 * 1), cap - 0, by simp [hc], by simp⟩
  · refine ⟨⟨by omega, by omega, by omega⟩, ?_⟩
    have e0 : ((n : Int)).toNat = n := by omega
    simp only [e0]
    have hlen : (xs.drop n).length = xs.length - n := List.length_drop
    refine hK _ fun w2 h2' => ⟨fun x hx => h.by_ x (List.mem_of_mem_drop hx), ?_⟩
    by_cases hz : xs.length - n = 0
    · have hd : xs.drop n = [] := List.eq_nil_of_length_eq_zero (by omega)
      rw [hd]
      refine .inr (.inl ?_)
      have hl0 : ((xs.length : Int)).toNat - n = 0 := by omega
      by_cases hcn : cap = n
      · rw [if_pos hcn]; exact ⟨⟨b, o, none⟩, cap - n, by rw [hl0], rfl⟩
      · rw [if_neg hcn]; exact ⟨(⟨b, o, none⟩ : Addr).add (n * 1), cap - n, by rw [hl0]; rfl, rfl⟩
    · rw [if_neg (by omega), Option.map_some, add_mk, Nat.mul_one]
      rcases h2'.at_ with ⟨q, _⟩ | ⟨a', c', q1, q2⟩ | ⟨b', o', c', q1, _, _, q4⟩
      · cases q
      · rw [q2] at hz; simp at hz
      · cases q1
        refine .inr (.inr ⟨b, o + n, cap - n, by rw [hlen]; congr 1, by omega, by omega, ?_⟩)
        intro j hj
        rw [List.length_map, hlen] at hj
        rw [Nat.add_assoc, q4 (n + j) (by rw [List.length_map]; omega), List.getElem?_map, List.getElem?_map, List.getElem?_drop]
/-- words out of octets: the first i are filled -/
def fillW (f : List Int → Value) (k : Nat) (ys : List Int) (L : List Value) (i : Nat) : List Value := ((List.range i).map fun j => f (ys.drop (k * j))) ++ L.drop i
theorem fillW_step {f : List Int → Value} {k i : Nat} (hi : i < L.length) : (fillW f k ys L i).set i (f (ys.drop (k * i))) = fillW f k ys L (i + 1) := by
  unfold fillW
  have hl : ((List.range i).map fun j => f (ys.drop (k * j))).length = i := by simp
  rw [List.set_append_right _ _ (by omega), hl, Nat.sub_self, List.range_succ, List.map_append, List.append_assoc, List.drop_eq_getElem_cons hi]
  rfl
theorem ix_sv {o i n c : Nat} (hi : i < n) {ii : Int} (hii : ii = (i : Int)) (hK : K (Pt b (o + i)) w) : ixs 1 (sv b o n c) (.int .i64 ii) K w := by
  subst hii
  refine ⟨⟨by omega, by omega⟩, ?_⟩
  have ej : ((i : Int)).toNat = i := by omega
  rw [ej, add_mk, Nat.mul_one]; exact hK
theorem wordsBE32_ok (hr : Row w b e L) (hd : ∀ w', Kp (fun k => k = b) w w' → Bs w' d ys) (hyl : ys.length ≤ 1000000000000) (hL : L.length ≤ 1000000000000)
    (hN : ys.length / 4 < L.length → K (.bool false) w) (hY : ¬ ys.length / 4 < L.length → ∀ w', Row w' b e (fillW (fun l => .int .u32 (be4 l)) 4 ys L L.length) → Kp (fun k => k = b) w w' → K (.bool true) w') : cl Try.prog 67 #[sv b 0 L.length L.length, d] K w := by
  have hd0 := hd w (Kp.refl _ _)
  apply c67
  unfold s67_p4
  refine hd0.ln ?_
  try simp only [e_fd, e_nck, e_pkt, e_pkf, e_gdtt, e_gdtf, e_gdft, e_gdff, e_ift, e_iff, e_not, e_ln, e_lnT, e_cp, e_cvi, e_ex20, e_ex21, e_ex30, e_ex31, e_ex32, e_add, e_sub, e_mul, e_quo, e_rem, e_and, e_or, e_xor, e_shl, e_shr, e_eql, e_neq, e_lss, e_leq, e_gtr, e_geq, e_beq, e_bne, e_peq1, e_peq2, e_pne1, e_pne2, e_zeq1, e_zeq2, e_zne1, e_zne2, e_feq1, e_fne1, e_feq2, e_fne2, e_seq, e_sne, e_ta1, e_ta2, Nat.zero_add, Nat.add_zero, Bool.not_true, Bool.not_false]
  refine ⟨by decide, ?_⟩
  have ed : IntKind.i64.wrap (((ys.length : Nat) : Int).tdiv 4) = ((ys.length / 4 : Nat) : Int) := by
    rw [Int.tdiv_eq_ediv_of_nonneg (by omega), wrap64_id (by omega) (by omega)]; omega
  rw [ed]
  by_cases hlt : ys.length / 4 < L.length
  · have hlt' : ((ys.length / 4 : Nat) : Int) < ((L.length : Nat) : Int) := by omega
    simp only [hlt', decide_true, e_fd, e_nck, e_pkt, e_pkf, e_gdtt, e_gdtf, e_gdft, e_gdff, e_ift, e_iff, e_not, e_ln, e_lnT, e_cp, e_cvi, e_ex20, e_ex21, e_ex30, e_ex31, e_ex32, e_add, e_sub, e_mul, e_quo, e_rem, e_and, e_or, e_xor, e_shl, e_shr, e_eql, e_neq, e_lss, e_leq, e_gtr, e_geq, e_beq, e_bne, e_peq1, e_peq2, e_pne1, e_pne2, e_zeq1, e_zeq2, e_zne1, e_zne2, e_feq1, e_fne1, e_feq2, e_fne2, e_seq, e_sne, e_ta1, e_ta2, Nat.zero_add, Nat.add_zero, Bool.not_true, Bool.not_false]
    exact hN hlt
  have hlt' : ¬ ((ys.length / 4 : Nat) : Int) < ((L.length : Nat) : Int) := by omega
  simp only [hlt', decide_false, e_fd, e_nck, e_pkt, e_pkf, e_gdtt, e_gdtf, e_gdft, e_gdff, e_ift, e_iff, e_not, e_ln, e_lnT, e_cp, e_cvi, e_ex20, e_ex21, e_ex30, e_ex31, e_ex32, e_add, e_sub, e_mul, e_quo, e_rem, e_and, e_or, e_xor, e_shl, e_shr, e_eql, e_neq, e_lss, e_leq, e_gtr, e_geq, e_beq, e_bne, e_peq1, e_peq2, e_pne1, e_pne2, e_zeq1, e_zeq2, e_zne1, e_zne2, e_feq1, e_fne1, e_feq2, e_fne2, e_seq, e_sne, e_ta1, e_ta2, Nat.zero_add, Nat.add_zero, Bool.not_true, Bool.not_false]
  unfold s67_p3
  refine ⟨fun n l w' => ∃ i : Nat, n + i = L.length ∧ l = [sv b 0 L.length L.length, d, I (L.length : Nat), I (i : Nat)] ∧ Row w' b e (fillW (fun l => .int .u32 (be4 l)) 4 ys L i) ∧ Kp (fun k => k = b) w w', L.length, ⟨0, rfl, rfl, by simpa [fillW] using hr, Kp.refl _ _⟩, ?_⟩
  rintro n l w1 ⟨i, hn, rfl, r1, hk1⟩
  rw [s67_p3_Fe]
  unfold s67_p2
  try simp only [e_fd, e_nck, e_pkt, e_pkf, e_gdtt, e_gdtf, e_gdft, e_gdff, e_ift, e_iff, e_not, e_ln, e_lnT, e_cp, e_cvi, e_ex20, e_ex21, e_ex30, e_ex31, e_ex32, e_add, e_sub, e_mul, e_quo, e_rem, e_and, e_or, e_xor, e_shl, e_shr, e_eql, e_neq, e_lss, e_leq, e_gtr, e_geq, e_beq, e_bne, e_peq1, e_peq2, e_pne1, e_pne2, e_zeq1, e_zeq2, e_zne1, e_zne2, e_feq1, e_fne1, e_feq2, e_fne2, e_seq, e_sne, e_ta1, e_ta2, Nat.zero_add, Nat.add_zero, Bool.not_true, Bool.not_false]
  by_cases hi : i < L.length
  · have hi' : ((i : Nat) : Int) < ((L.length : Nat) : Int) := by omega
    simp only [hi', decide_true, e_fd, e_nck, e_pkt, e_pkf, e_gdtt, e_gdtf, e_gdft, e_gdff, e_ift, e_iff, e_not, e_ln, e_lnT, e_cp, e_cvi, e_ex20, e_ex21, e_ex30, e_ex31, e_ex32, e_add, e_sub, e_mul, e_quo, e_rem, e_and, e_or, e_xor, e_shl, e_shr, e_eql, e_neq, e_lss, e_leq, e_gtr, e_geq, e_beq, e_bne, e_peq1, e_peq2, e_pne1, e_pne2, e_zeq1, e_zeq2, e_zne1, e_zne2, e_feq1, e_fne1, e_feq2, e_fne2, e_seq, e_sne, e_ta1, e_ta2, Nat.zero_add, Nat.add_zero, Bool.not_true, Bool.not_false]
    rw [wrap64_id (by omega) (by omega), show (4 : Int) * ((i : Nat) : Int) = ((4 * i : Nat) : Int) by omega]
    refine (hd w1 hk1).dropZ (n := 4 * i) rfl (by omega) fun v1 hv1 => ?_
    refine BE32_ok (hv1 w1 (hd w1 hk1)) (by rw [List.length_drop]; omega) fun w2 hk2 => ?_
    have hfl : (fillW (fun l => Value.int .u32 (be4 l)) 4 ys L i).length = L.length := by unfold fillW; simp; omega
    refine ix_sv hi rfl ?_
    have r2 := hk2.row' r1
    refine st1_r r2 (by omega) rfl fun w3 r3 hk3 hz3 => ?_
    rw [Nat.zero_add, fillW_step hi] at r3
    try simp only [e_fd, e_nck, e_pkt, e_pkf, e_gdtt, e_gdtf, e_gdft, e_gdff, e_ift, e_iff, e_not, e_ln, e_lnT, e_cp, e_cvi, e_ex20, e_ex21, e_ex30, e_ex31, e_ex32, e_add, e_sub, e_mul, e_quo, e_rem, e_and, e_or, e_xor, e_shl, e_shr, e_eql, e_neq, e_lss, e_leq, e_gtr, e_geq, e_beq, e_bne, e_peq1, e_peq2, e_pne1, e_pne2, e_zeq1, e_zeq2, e_zne1, e_zne2, e_feq1, e_fne1, e_feq2, e_fne2, e_seq, e_sne, e_ta1, e_ta2, Nat.zero_add, Nat.add_zero, Bool.not_true, Bool.not_false]
    rw [wrap64_id (by omega) (by omega)]
    exact ⟨n - 1, by omega, i + 1, by omega, by simp, r3, (hk1.then hk2 (fun _ _ q => q.elim)).trans hk3⟩
  · have hi' : ¬ ((i : Nat) : Int) < ((L.length : Nat) : Int) := by omega
    simp only [hi', decide_false, e_fd, e_nck, e_pkt, e_pkf, e_gdtt, e_gdtf, e_gdft, e_gdff, e_ift, e_iff, e_not, e_ln, e_lnT, e_cp, e_cvi, e_ex20, e_ex21, e_ex30, e_ex31, e_ex32, e_add, e_sub, e_mul, e_quo, e_rem, e_and, e_or, e_xor, e_shl, e_shr, e_eql, e_neq, e_lss, e_leq, e_gtr, e_geq, e_beq, e_bne, e_peq1, e_peq2, e_pne1, e_pne2, e_zeq1, e_zeq2, e_zne1, e_zne2, e_feq1, e_fne1, e_feq2, e_fne2, e_seq, e_sne, e_ta1, e_ta2, Nat.zero_add, Nat.add_zero, Bool.not_true, Bool.not_false]
    unfold s67_p1
    have : i = L.length := by omega
    rw [this] at r1
    exact hY hlt w1 r1 hk1
theorem wordsLE32_ok (hr : Row w b e L) (hd : ∀ w', Kp (fun k => k = b) w w' → Bs w' d ys) (hyl : ys.length ≤ 1000000000000) (hL : L.length ≤ 1000000000000)
    (hN : ys.length / 4 < L.length → K (.bool false) w) (hY : ¬ ys.length / 4 < L.length → ∀ w', Row w' b e (fillW (fun l => .int .u32 (le4 l)) 4 ys L L.length) → Kp (fun k => k = b) w w' → K (.bool true) w') : cl Try.prog 69 #[sv b 0 L.length L.length, d] K w := by
  have hd0 := hd w (Kp.refl _ _)
  apply c69
  unfold s69_p4
  refine hd0.ln ?_
  try simp only [e_fd, e_nck, e_pkt, e_pkf, e_gdtt, e_gdtf, e_gdft, e_gdff, e_ift, e_iff, e_not, e_ln, e_lnT, e_cp, e_cvi, e_ex20, e_ex21, e_ex30, e_ex31, e_ex32, e_add, e_sub, e_mul, e_quo, e_rem, e_and, e_or, e_xor, e_shl, e_shr, e_eql, e_neq, e_lss, e_leq, e_gtr, e_geq, e_beq, e_bne, e_peq1, e_peq2, e_pne1, e_pne2, e_zeq1, e_zeq2, e_zne1, e_zne2, e_feq1, e_fne1, e_feq2, e_fne2, e_seq, e_sne, e_ta1, e_ta2, Nat.zero_add, Nat.add_zero, Bool.not_true, Bool.not_false]
  refine ⟨by decide, ?_⟩
  have ed : IntKind.i64.wrap (((ys.length : Nat) : Int).tdiv 4) = ((ys.length / 4 : Nat) : Int) := by
    rw [Int.tdiv_eq_ediv_of_nonneg (by omega), wrap64_id (by omega) (by omega)]; omega
  rw [ed]
  by_cases hlt : ys.length / 4 < L.length
  · have hlt' : ((ys.length / 4 : Nat) : Int) < ((L.length : Nat) : Int) := by omega
    simp only [hlt', decide_true, e_fd, e_nck, e_pkt, e_pkf, e_gdtt, e_gdtf, e_gdft, e_gdff, e_ift, e_iff, e_not, e_ln, e_lnT, e_cp, e_cvi, e_ex20, e_ex21, e_ex30, e_ex31, e_ex32, e_add, e_sub, e_mul, e_quo, e_rem, e_and, e_or, e_xor, e_shl, e_shr, e_eql, e_neq, e_lss, e_leq, e_gtr, e_geq, e_beq, e_bne, e_peq1, e_peq2, e_pne1, e_pne2, e_zeq1, e_zeq2, e_zne1, e_zne2, e_feq1, e_fne1, e_feq2, e_fne2, e_seq, e_sne, e_ta1, e_ta2, Nat.zero_add, Nat.add_zero, Bool.not_true, Bool.not_false]
    exact hN hlt
  have hlt' : ¬ ((ys.length / 4 : Nat) : Int) < ((L.length : Nat) : Int) := by omega
  simp only [hlt', decide_false, e_fd, e_nck, e_pkt, e_pkf, e_gdtt, e_gdtf, e_gdft, e_gdff, e_ift, e_iff, e_not, e_ln, e_lnT, e_cp, e_cvi, e_ex20, e_ex21, e_ex30, e_ex31, e_ex32, e_add, e_sub, e_mul, e_quo, e_rem, e_and, e_or, e_xor, e_shl, e_shr, e_eql, e_neq, e_lss, e_leq, e_gtr, e_geq, e_beq, e_bne, e_peq1, e_peq2, e_pne1, e_pne2, e_zeq1, e_zeq2, e_zne1, e_zne2, e_feq1, e_fne1, e_feq2, e_fne2, e_seq, e_sne, e_ta1, e_ta2, Nat.zero_add, Nat.add_zero, Bool.not_true, Bool.not_false]
  unfold s69_p3
  refine ⟨fun n l w' => ∃ i : Nat, n + i = L.length ∧ l = [sv b 0 L.length L.length, d, I (L.length : Nat), I (i : Nat)] ∧ Row w' b e (fillW (fun l => .int .u32 (le4 l)) 4 ys L i) ∧ Kp (fun k => k = b) w w', L.length, ⟨0, rfl, rfl, by simpa [fillW] using hr, Kp.refl _ _⟩, ?_⟩
  rintro n l w1 ⟨i, hn, rfl, r1, hk1⟩
  rw [s69_p3_Fe]
  unfold s69_p2
  try simp only [e_fd, e_nck, e_pkt, e_pkf, e_gdtt, e_gdtf, e_gdft, e_gdff, e_ift, e_iff, e_not, e_ln, e_lnT, e_cp, e_cvi, e_ex20, e_ex21, e_ex30, e_ex31, e_ex32, e_add, e_sub, e_mul, e_quo, e_rem, e_and, e_or, e_xor, e_shl, e_shr, e_eql, e_neq, e_lss, e_leq, e_gtr, e_geq, e_beq, e_bne, e_peq1, e_peq2, e_pne1, e_pne2, e_zeq1, e_zeq2, e_zne1, e_zne2, e_feq1, e_fne1, e_feq2, e_fne2, e_seq, e_sne, e_ta1, e_ta2, Nat.zero_add, Nat.add_zero, Bool.not_true, Bool.not_false]
  by_cases hi : i < L.length
  · have hi' : ((i : Nat) : Int) < ((L.length : Nat) : Int) := by omega
    simp only [hi', decide_true, e_fd, e_nck, e_pkt, e_pkf, e_gdtt, e_gdtf, e_gdft, e_gdff, e_ift, e_iff, e_not, e_ln, e_lnT, e_cp, e_cvi, e_ex20, e_ex21, e_ex30, e_ex31, e_ex32, e_add, e_sub, e_mul, e_quo, e_rem, e_and, e_or, e_xor, e_shl, e_shr, e_eql, e_neq, e_lss, e_leq, e_gtr, e_geq, e_beq, e_bne, e_peq1, e_peq2, e_pne1, e_pne2, e_zeq1, e_zeq2, e_zne1, e_zne2, e_feq1, e_fne1, e_feq2, e_fne2, e_seq, e_sne, e_ta1, e_ta2, Nat.zero_add, Nat.add_zero, Bool.not_true, Bool.not_false]
    rw [wrap64_id (by omega) (by omega), show (4 : Int) * ((i : Nat) : Int) = ((4 * i : Nat) : Int) by omega]
    refine (hd w1 hk1).dropZ (n := 4 * i) rfl (by omega) fun v1 hv1 => ?_
    refine LE32_ok (hv1 w1 (hd w1 hk1)) (by rw [List.length_drop]; omega) fun w2 hk2 => ?_
    have hfl : (fillW (fun l => Value.int .u32 (le4 l)) 4 ys L i).length = L.length := by unfold fillW; simp; omega
    refine ix_sv hi rfl ?_
    have r2 := hk2.row' r1
    refine st1_r r2 (by omega) rfl fun w3 r3 hk3 hz3 => ?_
    rw [Nat.zero_add, fillW_step hi] at r3
    try simp only [e_fd, e_nck, e_pkt, e_pkf, e_gdtt, e_gdtf, e_gdft, e_gdff, e_ift, e_iff, e_not, e_ln, e_lnT, e_cp, e_cvi, e_ex20, e_ex21, e_ex30, e_ex31, e_ex32, e_add, e_sub, e_mul, e_quo, e_rem, e_and, e_or, e_xor, e_shl, e_shr, e_eql, e_neq, e_lss, e_leq, e_gtr, e_geq, e_beq, e_bne, e_peq1, e_peq2, e_pne1, e_pne2, e_zeq1, e_zeq2, e_zne1, e_zne2, e_feq1, e_fne1, e_feq2, e_fne2, e_seq, e_sne, e_ta1, e_ta2, Nat.zero_add, Nat.add_zero, Bool.not_true, Bool.not_false]
    rw [wrap64_id (by omega) (by omega)]
    exact ⟨n - 1, by omega, i + 1, by omega, by simp, r3, (hk1.then hk2 (fun _ _ q => q.elim)).trans hk3⟩
  · have hi' : ¬ ((i : Nat) : Int) < ((L.length : Nat) : Int) := by omega
    simp only [hi', decide_false, e_fd, e_nck, e_pkt, e_pkf, e_gdtt, e_gdtf, e_gdft, e_gdff, e_ift, e_iff, e_not, e_ln, e_lnT, e_cp, e_cvi, e_ex20, e_ex21, e_ex30, e_ex31, e_ex32, e_add, e_sub, e_mul, e_quo, e_rem, e_and, e_or, e_xor, e_shl, e_shr, e_eql, e_neq, e_lss, e_leq, e_gtr, e_geq, e_beq, e_bne, e_peq1, e_peq2, e_pne1, e_pne2, e_zeq1, e_zeq2, e_zne1, e_zne2, e_feq1, e_fne1, e_feq2, e_fne2, e_seq, e_sne, e_ta1, e_ta2, Nat.zero_add, Nat.add_zero, Bool.not_true, Bool.not_false]
    unfold s69_p1
    have : i = L.length := by omega
    rw [this] at r1
    exact hY hlt w1 r1 hk1
theorem wordsBE64_ok (hr : Row w b e L) (hd : ∀ w', Kp (fun k => k = b) w w' → Bs w' d ys) (hyl : ys.length ≤ 1000000000000) (hL : L.length ≤ 1000000000000)
    (hN : ys.length / 8 < L.length → K (.bool false) w) (hY : ¬ ys.length / 8 < L.length → ∀ w', Row w' b e (fillW (fun l => .int .u64 (be8 l)) 8 ys L L.length) → Kp (fun k => k = b) w w' → K (.bool true) w') : cl Try.prog 71 #[sv b 0 L.length L.length, d] K w := by
  have hd0 := hd w (Kp.refl _ _)
  apply c71
  unfold s71_p4
  refine hd0.ln ?_
  try simp only [e_fd, e_nck, e_pkt, e_pkf, e_gdtt, e_gdtf, e_gdft, e_gdff, e_ift, e_iff, e_not, e_ln, e_lnT, e_cp, e_cvi, e_ex20, e_ex21, e_ex30, e_ex31, e_ex32, e_add, e_sub, e_mul, e_quo, e_rem, e_and, e_or, e_xor, e_shl, e_shr, e_eql, e_neq, e_lss, e_leq, e_gtr, e_geq, e_beq, e_bne, e_peq1, e_peq2, e_pne1, e_pne2, e_zeq1, e_zeq2, e_zne1, e_zne2, e_feq1, e_fne1, e_feq2, e_fne2, e_seq, e_sne, e_ta1, e_ta2, Nat.zero_add, Nat.add_zero, Bool.not_true, Bool.not_false]
  refine ⟨by decide, ?_⟩
  have ed : IntKind.i64.wrap (((ys.length : Nat) : Int).tdiv 8) = ((ys.length / 8 : Nat) : Int) := by
    rw [Int.tdiv_eq_ediv_of_nonneg (by omega), wrap64_id (by omega) (by omega)]; omega
  rw [ed]
  by_cases hlt : ys.length / 8 < L.length
  · have hlt' : ((ys.length / 8 : Nat) : Int) < ((L.length : Nat) : Int) := by omega
    simp only [hlt', decide_true, e_fd, e_nck, e_pkt, e_pkf, e_gdtt, e_gdtf, e_gdft, e_gdff, e_ift, e_iff, e_not, e_ln, e_lnT, e_cp, e_cvi, e_ex20, e_ex21, e_ex30, e_ex31, e_ex32, e_add, e_sub, e_mul, e_quo, e_rem, e_and, e_or, e_xor, e_shl, e_shr, e_eql, e_neq, e_lss, e_leq, e_gtr, e_geq, e_beq, e_bne, e_peq1, e_peq2, e_pne1, e_pne2, e_zeq1, e_zeq2, e_zne1, e_zne2, e_feq1, e_fne1, e_feq2, e_fne2, e_seq, e_sne, e_ta1, e_ta2, Nat.zero_add, Nat.add_zero, Bool.not_true, Bool.not_false]
    exact hN hlt
  have hlt' : ¬ ((ys.length / 8 : Nat) : Int) < ((L.length : Nat) : Int) := by omega
  simp only [hlt', decide_false, e_fd, e_nck, e_pkt, e_pkf, e_gdtt, e_gdtf, e_gdft, e_gdff, e_ift, e_iff, e_not, e_ln, e_lnT, e_cp, e_cvi, e_ex20, e_ex21, e_ex30, e_ex31, e_ex32, e_add, e_sub, e_mul, e_quo, e_rem, e_and, e_or, e_xor, e_shl, e_shr, e_eql, e_neq, e_lss, e_leq, e_gtr, e_geq, e_beq, e_bne, e_peq1, e_peq2, e_pne1, e_pne2, e_zeq1, e_zeq2, e_zne1, e_zne2, e_feq1, e_fne1, e_feq2, e_fne2, e_seq, e_sne, e_ta1, e_ta2, Nat.zero_add, Nat.add_zero, Bool.not_true, Bool.not_false]
  unfold s71_p3
  refine ⟨fun n l w' => ∃ i : Nat, n + i = L.length ∧ l = [sv b 0 L.length L.length, d, I (L.length : Nat), I (i : Nat)] ∧ Row w' b e (fillW (fun l => .int .u64 (be8 l)) 8 ys L i) ∧ Kp (fun k => k = b) w w', L.length, ⟨0, rfl, rfl, by simpa [fillW] using hr, Kp.refl _ _⟩, ?_⟩
  rintro n l w1 ⟨i, hn, rfl, r1, hk1⟩
  rw [s71_p3_Fe]
  unfold s71_p2
  try simp only [e_fd, e_nck, e_pkt, e_pkf, e_gdtt, e_gdtf, e_gdft, e_gdff, e_ift, e_iff, e_not, e_ln, e_lnT, e_cp, e_cvi, e_ex20, e_ex21, e_ex30, e_ex31, e_ex32, e_add, e_sub, e_mul, e_quo, e_rem, e_and, e_or, e_xor, e_shl, e_shr, e_eql, e_neq, e_lss, e_leq, e_gtr, e_geq, e_beq, e_bne, e_peq1, e_peq2, e_pne1, e_pne2, e_zeq1, e_zeq2, e_zne1, e_zne2, e_feq1, e_fne1, e_feq2, e_fne2, e_seq, e_sne, e_ta1, e_ta2, Nat.zero_add, Nat.add_zero, Bool.not_true, Bool.not_false]
  by_cases hi : i < L.length
  · have hi' : ((i : Nat) : Int) < ((L.length : Nat) : Int) := by omega
    simp only [hi', decide_true, e_fd, e_nck, e_pkt, e_pkf, e_gdtt, e_gdtf, e_gdft, e_gdff, e_ift, e_iff, e_not, e_ln, e_lnT, e_cp, e_cvi, e_ex20, e_ex21, e_ex30, e_ex31, e_ex32, e_add, e_sub, e_mul, e_quo, e_rem, e_and, e_or, e_xor, e_shl, e_shr, e_eql, e_neq, e_lss, e_leq, e_gtr, e_geq, e_beq, e_bne, e_peq1, e_peq2, e_pne1, e_pne2, e_zeq1, e_zeq2, e_zne1, e_zne2, e_feq1, e_fne1, e_feq2, e_fne2, e_seq, e_sne, e_ta1, e_ta2, Nat.zero_add, Nat.add_zero, Bool.not_true, Bool.not_false]
    rw [wrap64_id (by omega) (by omega), show (8 : Int) * ((i : Nat) : Int) = ((8 * i : Nat) : Int) by omega]
    refine (hd w1 hk1).dropZ (n := 8 * i) rfl (by omega) fun v1 hv1 => ?_
    refine BE64_ok (hv1 w1 (hd w1 hk1)) (by rw [List.length_drop]; omega) fun w2 hk2 => ?_
    have hfl : (fillW (fun l => Value.int .u64 (be8 l)) 8 ys L i).length = L.length := by unfold fillW; simp; omega
    refine ix_sv hi rfl ?_
    have r2 := hk2.row' r1
    refine st1_r r2 (by omega) rfl fun w3 r3 hk3 hz3 => ?_
    rw [Nat.zero_add, fillW_step hi] at r3
    try simp only [e_fd, e_nck, e_pkt, e_pkf, e_gdtt, e_gdtf, e_gdft, e_gdff, e_ift, e_iff, e_not, e_ln, e_lnT, e_cp, e_cvi, e_ex20, e_ex21, e_ex30, e_ex31, e_ex32, e_add, e_sub, e_mul, e_quo, e_rem, e_and, e_or, e_xor, e_shl, e_shr, e_eql, e_neq, e_lss, e_leq, e_gtr, e_geq, e_beq, e_bne, e_peq1, e_peq2, e_pne1, e_pne2, e_zeq1, e_zeq2, e_zne1, e_zne2, e_feq1, e_fne1, e_feq2, e_fne2, e_seq, e_sne, e_ta1, e_ta2, Nat.zero_add, Nat.add_zero, Bool.not_true, Bool.not_false]
    rw [wrap64_id (by omega) (by omega)]
    exact ⟨n - 1, by omega, i + 1, by omega, by simp, r3, (hk1.then hk2 (fun _ _ q => q.elim)).trans hk3⟩
  · have hi' : ¬ ((i : Nat) : Int) < ((L.length : Nat) : Int) := by omega
    simp only [hi', decide_false, e_fd, e_nck, e_pkt, e_pkf, e_gdtt, e_gdtf, e_gdft, e_gdff, e_ift, e_iff, e_not, e_ln, e_lnT, e_cp, e_cvi, e_ex20, e_ex21, e_ex30, e_ex31, e_ex32, e_add, e_sub, e_mul, e_quo, e_rem, e_and, e_or, e_xor, e_shl, e_shr, e_eql, e_neq, e_lss, e_leq, e_gtr, e_geq, e_beq, e_bne, e_peq1, e_peq2, e_pne1, e_pne2, e_zeq1, e_zeq2, e_zne1, e_zne2, e_feq1, e_fne1, e_feq2, e_fne2, e_seq, e_sne, e_ta1, e_ta2, Nat.zero_add, Nat.add_zero, Bool.not_true, Bool.not_false]
    unfold s71_p1
    have : i = L.length := by omega
    rw [this] at r1
    exact hY hlt w1 r1 hk1

/-! ### the loop of a law -/
structure LZ (W w : World) (mb : Nat) (wob : Option Nat) (wv rv : Value) (s : Mst) (j : Nat) : Prop where
  ma : Ma W w mb wob wv rv s
  len : s.work.length ≤ 300000 * j
theorem LZ.kp' {j : Nat} (h : LZ W w mb wob wv rv s j) (hk : Kp (fun _ => False) w w') : LZ W w' mb wob wv rv s j := ⟨h.ma.kp' hk, h.len⟩
/-- the head of a round: the step of the script is played -/
theorem LZ.step {v : Value} {ops : List Op} {j : Nat} {k : Value → World → Prop} (h : LZ W w mb wob wv rv s j) (hs : Scr W v ops) (hl : ops.length ≤ 65536) (hall : ∀ x ∈ ops, x.data.length ≤ 65536) (hj : j < ops.length)
    (hK : ∀ w' wob' wv' rv' s' t5 dv, LZ W w' mb wob' wv' rv' s' (j + 1) → Row w' t5 34 (opc dv ops[j]) → Bs W dv ops[j].data → ops[j].Wf → (∃ ok x dat, StepR s ops[j] s' ok x dat) → W.heap.size ≤ t5 → k (.pointer (some ⟨t5, 0, none⟩)) w') :
    ixs 6 v (I j) (fun t25 w => ldn 6 t25 (fun t26 w => nw 34 #[(.int .i64 0), (.int .i64 0), (.bool false), (.int .i64 0), (.int .u64 0), (.slice none 0 0)] (fun t7 w => stn 6 t7 t26 (fun w => ldn 6 t7 (fun t15 w => cl Try.prog 13 #[Pt mb 0, t15] (fun _ w => k t7 w) w) w) w) w) w) w := by
  have hb := h.ma.kp.below'
  have hlen := h.len
  refine hs.take (h.ma.kp.below') hj fun w1 b dv hb1 r1 hk1 hd hwf hsc => ?_
  refine ldn_r r1 (show 0 + 6 ≤ 6 by decide) ?_
  have m1 := h.ma.kp' hk1
  refine step_ok m1 hd (hall _ (List.getElem_mem hj)) hwf (by omega) ?_
  intro w2 wob2 wv2 rv2 s2 ok x dv' dat m2 hst hl2 hbs hk2 _
  have hW := h.ma.kp.size
  refine hK w2 wob2 wv2 rv2 s2 b dv ⟨m2, by omega⟩ (hk2.row r1 (fun q => ?_)) hd hwf ⟨ok, x, dat, hst⟩ (by omega)
  rcases q with q | q
  · exact row_ne r1 m1.row (by decide) q
  · obtain ⟨l, hr⟩ := m1.wk.row q; exact row_ne r1 hr (by decide) rfl
/-- the machine at the start -/
theorem LZ.start (hk : Kp (fun _ => False) W w) (hr : Row w mb 28 [.slice none 0 0, .slice none 0 0, I (0 : Nat), .bool false]) (hz : W.heap.size ≤ mb) : LZ W w mb none (.slice none 0 0) (.slice none 0 0) ⟨[], [], 0, false⟩ 0 :=
  ⟨⟨hr, ⟨rfl, rfl⟩, fun x hx => (by cases hx), Nat.zero_le _, ⟨none, ⟨rfl, rfl⟩, fun b hb => (by cases hb), fun b hb => (by cases hb)⟩, fun x hx => (by cases hx), Nat.zero_le _, Nat.le_refl _, hz, fun b hb => (by cases hb), hk⟩, Nat.le_refl _⟩
end
end Go.Proofs.Qxb6500898a
