import Derived.Test.Qxb6500898aV8
namespace Go.Proofs.Qxb6500898a
open Go.Sh Go.RowKit
set_option linter.unusedVariables false
set_option linter.unusedSimpArgs false

/-- a slice of octets in old memory, outside S -/
structure Bq (S : Nat → Prop) (w : World) (v : Value) (xs : List Int) : Prop where
  by_ : By xs
  at_ : (v = .slice none 0 0 ∧ xs = []) ∨ (∃ a cap, v = .slice (some a) 0 cap ∧ xs = []) ∨ ∃ b o cap, v = .slice (some ⟨b, o, none⟩) xs.length cap ∧ xs.length ≤ cap ∧ xs.length ≤ 9223372036854775807 ∧ b < w.heap.size ∧ ¬ S b ∧ Cells w b o (xs.map U8)
section
variable {w w' w2 : World} {v d : Value} {ob : Option Nat} {o : Nat} {xs ys zs : List Int} {pre post : List Value} {K : Value → World → Prop} {B1 : List Value → World → Prop} {k : World → Prop} {i e p n m : Nat} {z c : Int} {S : Nat → Prop}
theorem Bq.bs (h : Bq S w v xs) : Bs w v xs := by
  refine ⟨h.by_, ?_⟩
  rcases h.at_ with q | q | ⟨b, o, cap, h1, h2, h3, _, _, h6⟩
  · exact .inl q
  · exact .inr (.inl q)
  · exact .inr (.inr ⟨b, o, cap, h1, h2, h3, h6⟩)
theorem Bq.kp (h : Bq S w v xs) (hk : Kp S w w') : Bq S w' v xs := by
  refine ⟨h.by_, ?_⟩
  rcases h.at_ with q | q | ⟨b, o, cap, h1, h2, h3, h4, h5, h6⟩
  · exact .inl q
  · exact .inr (.inl q)
  · exact .inr (.inr ⟨b, o, cap, h1, h2, h3, by have := hk.size; omega, h5, h6.kp hk h5⟩)
theorem Bq.mono {S' : Nat → Prop} (h : Bq S w v xs) (hs : ∀ b, b < w.heap.size → S' b → S b) : Bq S' w v xs := by
  refine ⟨h.by_, ?_⟩
  rcases h.at_ with q | q | ⟨b, o, cap, h1, h2, h3, h4, h5, h6⟩
  · exact .inl q
  · exact .inr (.inl q)
  · exact .inr (.inr ⟨b, o, cap, h1, h2, h3, h4, fun q => h5 (hs b h4 q), h6⟩)
theorem Bq.drop (h : Bq S w v xs) (n : Nat) {ii : Int} (hii : ii = (n : Int)) (hn : n ≤ xs.length) (hx : 0 < xs.length) (hK : ∀ v', Bq S w v' (xs.drop n) → K v' w2) : sls 1 v (some (.int .i64 ii)) none K w2 := by
  subst hii
  rcases h.at_ with ⟨rfl, rfl⟩ | ⟨a, cap, rfl, rfl⟩ | ⟨b, o, cap, rfl, h1, h2, h4, h5, hc⟩
  · simp at hx
  · simp at hx
  · refine ⟨⟨by omega, by omega, by omega⟩, ?_⟩
    have e0 : ((n : Int)).toNat = n := by omega
    simp only [e0]
    refine hK _ ⟨fun x hx => h.by_ x (List.mem_of_mem_drop hx), .inr (.inr ?_)⟩
    by_cases hcn : cap = n
    · rw [if_pos hcn]
      refine ⟨b, o, cap - n, ?_, by rw [List.length_drop]; omega, by rw [List.length_drop]; omega, h4, h5, ?_⟩
      · rw [List.length_drop]; congr 1
      · intro j hj
        rw [List.length_map, List.length_drop] at hj
        omega
    · rw [if_neg hcn]
      refine ⟨b, o + n, cap - n, ?_, by rw [List.length_drop]; omega, by rw [List.length_drop]; omega, h4, h5, ?_⟩
      · rw [List.length_drop, Option.map_some, add_mk, Nat.mul_one]; congr 1
      · intro j hj
        rw [List.length_map, List.length_drop] at hj
        rw [Nat.add_assoc, hc (n + j) (by rw [List.length_map]; omega), List.getElem?_map, List.getElem?_map, List.getElem?_drop]
/-- data of the world in which the law was called -/
theorem Bs.q {W : World} (h : Bs W v xs) (hb : Kp (fun _ => False) W w) (hS : ∀ b, S b → W.heap.size ≤ b) : Bq S w v xs := by
  refine ⟨h.by_, ?_⟩
  rcases h.at_ with q | q | ⟨b, o, cap, h1, h2, h3, h4⟩
  · exact .inl q
  · exact .inr (.inl q)
  · by_cases h0 : 0 < xs.length
    · have hlt : b < W.heap.size := by
        have := h4 0 (by rw [List.length_map]; exact h0)
        rw [List.getElem?_eq_getElem (by rw [List.length_map]; exact h0)] at this
        unfold World.cell? at this
        rcases Nat.lt_or_ge b W.heap.size with q | q
        · exact q
        · rw [Array.getElem?_eq_none q] at this; simp at this
      exact .inr (.inr ⟨b, o, cap, h1, h2, h3, by have := hb.size; omega, fun q => by have := hS b q; omega, h4.kp' hb⟩)
    · have e : xs = [] := List.eq_nil_of_length_eq_zero (by omega)
      subst e
      exact .inr (.inl ⟨⟨b, o, none⟩, cap, h1, rfl⟩)
theorem Bs.vs (h : Bs w v xs) : Vs U8 w v xs := by
  rcases h.at_ with q | q | ⟨b, o, cap, h1, h2, h3, h4⟩
  · exact .inl q
  · exact .inr (.inl q)
  · exact .inr (.inr ⟨b, o, cap, h1, h2, h3, h4⟩)

/-! ### small functions -/
theorem goodWidth_ok {width : Int} (hK : K (.bool (decide (Wid width))) w) : cl Try.prog 33 #[I width] K w := by
  apply c33
  unfold s33_p1
  try simp only [e_fd, e_nck, e_pkt, e_pkf, e_gdtt, e_gdtf, e_gdft, e_gdff, e_ift, e_iff, e_not, e_ln, e_lnT, e_cp, e_cvi, e_ex20, e_ex21, e_ex30, e_ex31, e_ex32, e_add, e_sub, e_mul, e_quo, e_rem, e_and, e_or, e_xor, e_shl, e_shr, e_eql, e_neq, e_lss, e_leq, e_gtr, e_geq, e_beq, e_bne, e_peq1, e_peq2, e_pne1, e_pne2, e_zeq1, e_zeq2, e_zne1, e_zne2, e_feq1, e_fne1, e_feq2, e_fne2, e_seq, e_sne, e_ta1, e_ta2, Nat.zero_add, Nat.add_zero, Bool.not_true, Bool.not_false]
  by_cases h2 : width = 2
  · have e : (width == 2) = true := by rw [h2]; rfl
    simp only [e, e_fd, e_nck, e_pkt, e_pkf, e_gdtt, e_gdtf, e_gdft, e_gdff, e_ift, e_iff, e_not, e_ln, e_lnT, e_cp, e_cvi, e_ex20, e_ex21, e_ex30, e_ex31, e_ex32, e_add, e_sub, e_mul, e_quo, e_rem, e_and, e_or, e_xor, e_shl, e_shr, e_eql, e_neq, e_lss, e_leq, e_gtr, e_geq, e_beq, e_bne, e_peq1, e_peq2, e_pne1, e_pne2, e_zeq1, e_zeq2, e_zne1, e_zne2, e_feq1, e_fne1, e_feq2, e_fne2, e_seq, e_sne, e_ta1, e_ta2, Nat.zero_add, Nat.add_zero, Bool.not_true, Bool.not_false]
    rw [decide_eq_true (show Wid width from .inl h2)] at hK; exact hK
  have e : (width == 2) = false := by rw [beq_eq_false_iff_ne]; exact h2
  simp only [e, e_fd, e_nck, e_pkt, e_pkf, e_gdtt, e_gdtf, e_gdft, e_gdff, e_ift, e_iff, e_not, e_ln, e_lnT, e_cp, e_cvi, e_ex20, e_ex21, e_ex30, e_ex31, e_ex32, e_add, e_sub, e_mul, e_quo, e_rem, e_and, e_or, e_xor, e_shl, e_shr, e_eql, e_neq, e_lss, e_leq, e_gtr, e_geq, e_beq, e_bne, e_peq1, e_peq2, e_pne1, e_pne2, e_zeq1, e_zeq2, e_zne1, e_zne2, e_feq1, e_fne1, e_feq2, e_fne2, e_seq, e_sne, e_ta1, e_ta2, Nat.zero_add, Nat.add_zero, Bool.not_true, Bool.not_false]
  by_cases h4 : width = 4
  · have e : (width == 4) = true := by rw [h4]; rfl
    simp only [e, e_fd, e_nck, e_pkt, e_pkf, e_gdtt, e_gdtf, e_gdft, e_gdff, e_ift, e_iff, e_not, e_ln, e_lnT, e_cp, e_cvi, e_ex20, e_ex21, e_ex30, e_ex31, e_ex32, e_add, e_sub, e_mul, e_quo, e_rem, e_and, e_or, e_xor, e_shl, e_shr, e_eql, e_neq, e_lss, e_leq, e_gtr, e_geq, e_beq, e_bne, e_peq1, e_peq2, e_pne1, e_pne2, e_zeq1, e_zeq2, e_zne1, e_zne2, e_feq1, e_fne1, e_feq2, e_fne2, e_seq, e_sne, e_ta1, e_ta2, Nat.zero_add, Nat.add_zero, Bool.not_true, Bool.not_false]
    rw [decide_eq_true (show Wid width from .inr (.inl h4))] at hK; exact hK
  have e : (width == 4) = false := by rw [beq_eq_false_iff_ne]; exact h4
  simp only [e, e_fd, e_nck, e_pkt, e_pkf, e_gdtt, e_gdtf, e_gdft, e_gdff, e_ift, e_iff, e_not, e_ln, e_lnT, e_cp, e_cvi, e_ex20, e_ex21, e_ex30, e_ex31, e_ex32, e_add, e_sub, e_mul, e_quo, e_rem, e_and, e_or, e_xor, e_shl, e_shr, e_eql, e_neq, e_lss, e_leq, e_gtr, e_geq, e_beq, e_bne, e_peq1, e_peq2, e_pne1, e_pne2, e_zeq1, e_zeq2, e_zne1, e_zne2, e_feq1, e_fne1, e_feq2, e_fne2, e_seq, e_sne, e_ta1, e_ta2, Nat.zero_add, Nat.add_zero, Bool.not_true, Bool.not_false]
  by_cases h8 : width = 8
  · have e : (width == 8) = true := by rw [h8]; rfl
    simp only [e]
    rw [decide_eq_true (show Wid width from .inr (.inr h8))] at hK; exact hK
  have e : (width == 8) = false := by rw [beq_eq_false_iff_ne]; exact h8
  simp only [e]
  rw [decide_eq_false (show ¬ Wid width by unfold Wid; omega)] at hK; exact hK
abbrev FitsP (n : Nat) (off width : Int) : Prop := 0 ≤ off ∧ 0 ≤ width ∧ off ≤ n ∧ width ≤ n - off
theorem fits_ok {off width : Int} (hn : n ≤ 4000000000000000000) (hK : K (.bool (decide (FitsP n off width))) w) : cl Try.prog 34 #[I (n : Nat), I off, I width] K w := by
  apply c34
  unfold s34_p1
  try simp only [e_fd, e_nck, e_pkt, e_pkf, e_gdtt, e_gdtf, e_gdft, e_gdff, e_ift, e_iff, e_not, e_ln, e_lnT, e_cp, e_cvi, e_ex20, e_ex21, e_ex30, e_ex31, e_ex32, e_add, e_sub, e_mul, e_quo, e_rem, e_and, e_or, e_xor, e_shl, e_shr, e_eql, e_neq, e_lss, e_leq, e_gtr, e_geq, e_beq, e_bne, e_peq1, e_peq2, e_pne1, e_pne2, e_zeq1, e_zeq2, e_zne1, e_zne2, e_feq1, e_fne1, e_feq2, e_fne2, e_seq, e_sne, e_ta1, e_ta2, Nat.zero_add, Nat.add_zero, Bool.not_true, Bool.not_false]
  have no : ¬ FitsP n off width → K (.bool false) w := fun q => by rw [decide_eq_false q] at hK; exact hK
  by_cases h1 : ¬ 0 ≤ off
  · simp only [h1, decide_false, e_fd, e_nck, e_pkt, e_pkf, e_gdtt, e_gdtf, e_gdft, e_gdff, e_ift, e_iff, e_not, e_ln, e_lnT, e_cp, e_cvi, e_ex20, e_ex21, e_ex30, e_ex31, e_ex32, e_add, e_sub, e_mul, e_quo, e_rem, e_and, e_or, e_xor, e_shl, e_shr, e_eql, e_neq, e_lss, e_leq, e_gtr, e_geq, e_beq, e_bne, e_peq1, e_peq2, e_pne1, e_pne2, e_zeq1, e_zeq2, e_zne1, e_zne2, e_feq1, e_fne1, e_feq2, e_fne2, e_seq, e_sne, e_ta1, e_ta2, Nat.zero_add, Nat.add_zero, Bool.not_true, Bool.not_false]
    exact no (fun q => h1 q.1)
  have h1' : 0 ≤ off := Decidable.not_not.1 h1
  simp only [h1', decide_true, e_fd, e_nck, e_pkt, e_pkf, e_gdtt, e_gdtf, e_gdft, e_gdff, e_ift, e_iff, e_not, e_ln, e_lnT, e_cp, e_cvi, e_ex20, e_ex21, e_ex30, e_ex31, e_ex32, e_add, e_sub, e_mul, e_quo, e_rem, e_and, e_or, e_xor, e_shl, e_shr, e_eql, e_neq, e_lss, e_leq, e_gtr, e_geq, e_beq, e_bne, e_peq1, e_peq2, e_pne1, e_pne2, e_zeq1, e_zeq2, e_zne1, e_zne2, e_feq1, e_fne1, e_feq2, e_fne2, e_seq, e_sne, e_ta1, e_ta2, Nat.zero_add, Nat.add_zero, Bool.not_true, Bool.not_false]
  by_cases h2 : ¬ 0 ≤ width
  · simp only [h2, decide_false, e_fd, e_nck, e_pkt, e_pkf, e_gdtt, e_gdtf, e_gdft, e_gdff, e_ift, e_iff, e_not, e_ln, e_lnT, e_cp, e_cvi, e_ex20, e_ex21, e_ex30, e_ex31, e_ex32, e_add, e_sub, e_mul, e_quo, e_rem, e_and, e_or, e_xor, e_shl, e_shr, e_eql, e_neq, e_lss, e_leq, e_gtr, e_geq, e_beq, e_bne, e_peq1, e_peq2, e_pne1, e_pne2, e_zeq1, e_zeq2, e_zne1, e_zne2, e_feq1, e_fne1, e_feq2, e_fne2, e_seq, e_sne, e_ta1, e_ta2, Nat.zero_add, Nat.add_zero, Bool.not_true, Bool.not_false]
    exact no (fun q => h2 q.2.1)
  have h2' : 0 ≤ width := Decidable.not_not.1 h2
  simp only [h2', decide_true, e_fd, e_nck, e_pkt, e_pkf, e_gdtt, e_gdtf, e_gdft, e_gdff, e_ift, e_iff, e_not, e_ln, e_lnT, e_cp, e_cvi, e_ex20, e_ex21, e_ex30, e_ex31, e_ex32, e_add, e_sub, e_mul, e_quo, e_rem, e_and, e_or, e_xor, e_shl, e_shr, e_eql, e_neq, e_lss, e_leq, e_gtr, e_geq, e_beq, e_bne, e_peq1, e_peq2, e_pne1, e_pne2, e_zeq1, e_zeq2, e_zne1, e_zne2, e_feq1, e_fne1, e_feq2, e_fne2, e_seq, e_sne, e_ta1, e_ta2, Nat.zero_add, Nat.add_zero, Bool.not_true, Bool.not_false]
  by_cases h3 : ¬ off ≤ ((n : Nat) : Int)
  · simp only [h3, decide_false, e_fd, e_nck, e_pkt, e_pkf, e_gdtt, e_gdtf, e_gdft, e_gdff, e_ift, e_iff, e_not, e_ln, e_lnT, e_cp, e_cvi, e_ex20, e_ex21, e_ex30, e_ex31, e_ex32, e_add, e_sub, e_mul, e_quo, e_rem, e_and, e_or, e_xor, e_shl, e_shr, e_eql, e_neq, e_lss, e_leq, e_gtr, e_geq, e_beq, e_bne, e_peq1, e_peq2, e_pne1, e_pne2, e_zeq1, e_zeq2, e_zne1, e_zne2, e_feq1, e_fne1, e_feq2, e_fne2, e_seq, e_sne, e_ta1, e_ta2, Nat.zero_add, Nat.add_zero, Bool.not_true, Bool.not_false]
    exact no (fun q => h3 q.2.2.1)
  have h3' : off ≤ ((n : Nat) : Int) := Decidable.not_not.1 h3
  simp only [h3', decide_true, e_fd, e_nck, e_pkt, e_pkf, e_gdtt, e_gdtf, e_gdft, e_gdff, e_ift, e_iff, e_not, e_ln, e_lnT, e_cp, e_cvi, e_ex20, e_ex21, e_ex30, e_ex31, e_ex32, e_add, e_sub, e_mul, e_quo, e_rem, e_and, e_or, e_xor, e_shl, e_shr, e_eql, e_neq, e_lss, e_leq, e_gtr, e_geq, e_beq, e_bne, e_peq1, e_peq2, e_pne1, e_pne2, e_zeq1, e_zeq2, e_zne1, e_zne2, e_feq1, e_fne1, e_feq2, e_fne2, e_seq, e_sne, e_ta1, e_ta2, Nat.zero_add, Nat.add_zero, Bool.not_true, Bool.not_false]
  rw [wrap64_id (by omega) (by omega)]
  by_cases h4 : width ≤ ((n : Nat) : Int) - off
  · rw [decide_eq_true h4]
    rw [decide_eq_true (show FitsP n off width from ⟨h1', h2', h3', h4⟩)] at hK; exact hK
  · rw [decide_eq_false h4]
    exact no (fun q => h4 q.2.2.2)
/-- a fresh copy -/
theorem clone_ok (h : Bs w v xs) (hl : xs.length ≤ 1000000000000) (hK : ∀ w' b, Row w' b 5 (xs.map U8) → w.heap.size ≤ b → Kp (fun _ => False) w w' → K (sv b 0 xs.length xs.length) w') : cl Try.prog 32 #[v] K w := by
  apply c32
  unfold s32_p1
  refine h.ln ?_
  refine mks_r (n := xs.length) (by omega) (by omega) fun w1 r1 hk1 hz1 => ?_
  refine cp_r (f := U8) r1 (h.kp' hk1).vs rfl (by rw [List.length_replicate]; omega) (fun _ => rfl) fun w2 r2 hk2 hz2 => ?_
  have e : (List.replicate xs.length (Value.int .u8 0)).take 0 ++ (xs.map U8 ++ (List.replicate xs.length (Value.int .u8 0)).drop (0 + xs.length)) = xs.map U8 := by
    rw [List.take_zero, List.nil_append, List.drop_of_length_le (by simp), List.append_nil]
  rw [e] at r2
  exact hK w2 w.heap.size r2 (Nat.le_refl _) (hk1.then hk2 (fun b hb (q : b = _) => by omega))
theorem mv_row {b : Nat} (hr : Row w b 5 (xs.map U8)) (hb : By xs) (hl : xs.length ≤ 1000000000000) : Mv w (sv b 0 xs.length xs.length) (some b) 0 xs [] [] := ⟨hb, hl, .inr ⟨b, xs.length, rfl, rfl, Nat.le_refl _, by simpa using hr, rfl⟩⟩
theorem sl_row {b : Nat} (hr : Row w b 5 (xs.map U8)) : Sl u1 1 w 5 (some b) (sv b 0 xs.length xs.length) xs := ⟨xs.length, [], rfl, Nat.le_refl _, by simp, by rw [rows_u1]; simpa using hr⟩
theorem Mv.row {b : Nat} (h : Mv w v (some b) 0 xs [] []) : Row w b 5 (xs.map U8) := by
  rcases h.at_ with ⟨_, _, q⟩ | ⟨b', c, e, _, _, hr, _⟩
  · cases q
  · cases e; simpa using hr
/-- four octets more -/
theorem app_four {a1 a2 a3 a4 : Int} (h : Sl u1 1 w 5 ob v ys) (hl : ys.length ≤ 4398046511104)
    (hK : ∀ w' t' ob', Sl u1 1 w' 5 ob' t' (ys ++ [a1, a2, a3, a4]) → Kp (fun b => ob = some b) w w' → (ob' = ob ∨ ∃ b, ob' = some b ∧ w.heap.size ≤ b) → K t' w') :
    bsq 5 [(.int .u8 0)] 4 [(some (0, 1), U8 a1), (some (1, 1), U8 a2), (some (2, 1), U8 a3), (some (3, 1), U8 a4)] (fun t39 w => apq 5 [(.int .u8 0)] 1 v t39 K w) w := by
  refine bsq_r (l := [U8 a1, U8 a2, U8 a3, U8 a4]) rfl fun w1 r1 hk1 hz1 => ?_
  have h2 : Sl u1 1 w1 5 (some w.heap.size) (.slice (some ⟨w.heap.size, 0, none⟩) 4 4) [a1, a2, a3, a4] := ⟨4, [], rfl, Nat.le_refl _, rfl, r1⟩
  refine (h.kp' hk1).app2 u1_len rfl (fun _ _ => rfl) h2 (by simp only [List.length_cons, List.length_nil]; omega) (by simp only [List.length_cons, List.length_nil]; omega) fun w' t' ob' hs hk ho => ?_
  refine hK w' t' ob' hs ((hk1.mono fun _ _ q => q.elim).trans hk) ?_
  rcases ho with q | ⟨b, q, hb⟩
  · exact .inl q
  · exact .inr ⟨b, q, by omega⟩
/-- the rule of an append in the program -/
abbrev AppK (w : World) (ob : Option Nat) (ys : List Int) (K : Value → World → Prop) : Prop := ∀ w' t' ob', Sl u1 1 w' 5 ob' t' ys → Kp (fun b => ob = some b) w w' → (ob' = ob ∨ ∃ b, ob' = some b ∧ w.heap.size ≤ b) → K t' w'
theorem appBE16_ok (h : Sl u1 1 w 5 ob v ys) (hl : ys.length ≤ 4000000000000) (hz : 0 ≤ z) (hK : AppK w ob (ys ++ dB2 z) K) : cl Try.prog 83 #[v, .int .u16 z] K w := by
  apply c83
  unfold s83_p1
  try simp only [e_fd, e_nck, e_pkt, e_pkf, e_gdtt, e_gdtf, e_gdft, e_gdff, e_ift, e_iff, e_not, e_ln, e_lnT, e_cp, e_cvi, e_ex20, e_ex21, e_ex30, e_ex31, e_ex32, e_add, e_sub, e_mul, e_quo, e_rem, e_and, e_or, e_xor, e_shl, e_shr, e_eql, e_neq, e_lss, e_leq, e_gtr, e_geq, e_beq, e_bne, e_peq1, e_peq2, e_pne1, e_pne2, e_zeq1, e_zeq2, e_zne1, e_zne2, e_feq1, e_fne1, e_feq2, e_fne2, e_seq, e_sne, e_ta1, e_ta2, Nat.zero_add, Nat.add_zero, Bool.not_true, Bool.not_false]
  refine ⟨by decide, ?_⟩
  rw [p16_8, Int.fdiv_eq_ediv_of_nonneg _ (by decide), wrapu8, wrapu8]
  exact app_two h (by omega) hK
theorem appLE16_ok (h : Sl u1 1 w 5 ob v ys) (hl : ys.length ≤ 4000000000000) (hz : 0 ≤ z) (hK : AppK w ob (ys ++ dL2 z) K) : cl Try.prog 82 #[v, .int .u16 z] K w := by
  apply c82
  unfold s82_p1
  try simp only [e_fd, e_nck, e_pkt, e_pkf, e_gdtt, e_gdtf, e_gdft, e_gdff, e_ift, e_iff, e_not, e_ln, e_lnT, e_cp, e_cvi, e_ex20, e_ex21, e_ex30, e_ex31, e_ex32, e_add, e_sub, e_mul, e_quo, e_rem, e_and, e_or, e_xor, e_shl, e_shr, e_eql, e_neq, e_lss, e_leq, e_gtr, e_geq, e_beq, e_bne, e_peq1, e_peq2, e_pne1, e_pne2, e_zeq1, e_zeq2, e_zne1, e_zne2, e_feq1, e_fne1, e_feq2, e_fne2, e_seq, e_sne, e_ta1, e_ta2, Nat.zero_add, Nat.add_zero, Bool.not_true, Bool.not_false]
  refine ⟨by decide, ?_⟩
  rw [p16_8, Int.fdiv_eq_ediv_of_nonneg _ (by decide), wrapu8, wrapu8]
  exact app_two h (by omega) hK
theorem appBE32_ok (h : Sl u1 1 w 5 ob v ys) (hl : ys.length ≤ 4000000000000) (hz : 0 ≤ z) (hK : AppK w ob (ys ++ dB4 z) K) : cl Try.prog 85 #[v, .int .u32 z] K w := by
  apply c85
  unfold s85_p1
  try simp only [e_fd, e_nck, e_pkt, e_pkf, e_gdtt, e_gdtf, e_gdft, e_gdff, e_ift, e_iff, e_not, e_ln, e_lnT, e_cp, e_cvi, e_ex20, e_ex21, e_ex30, e_ex31, e_ex32, e_add, e_sub, e_mul, e_quo, e_rem, e_and, e_or, e_xor, e_shl, e_shr, e_eql, e_neq, e_lss, e_leq, e_gtr, e_geq, e_beq, e_bne, e_peq1, e_peq2, e_pne1, e_pne2, e_zeq1, e_zeq2, e_zne1, e_zne2, e_feq1, e_fne1, e_feq2, e_fne2, e_seq, e_sne, e_ta1, e_ta2, Nat.zero_add, Nat.add_zero, Bool.not_true, Bool.not_false]
  refine ⟨by decide, ?_⟩
  refine ⟨by decide, ?_⟩
  refine ⟨by decide, ?_⟩
  rw [p32_8, p32_16, p32_24, Int.fdiv_eq_ediv_of_nonneg _ (by decide), Int.fdiv_eq_ediv_of_nonneg _ (by decide), Int.fdiv_eq_ediv_of_nonneg _ (by decide), wrapu8, wrapu8, wrapu8, wrapu8]
  exact app_four h (by omega) hK
theorem appLE32_ok (h : Sl u1 1 w 5 ob v ys) (hl : ys.length ≤ 4000000000000) (hz : 0 ≤ z) (hK : AppK w ob (ys ++ dL4 z) K) : cl Try.prog 84 #[v, .int .u32 z] K w := by
  apply c84
  unfold s84_p1
  try simp only [e_fd, e_nck, e_pkt, e_pkf, e_gdtt, e_gdtf, e_gdft, e_gdff, e_ift, e_iff, e_not, e_ln, e_lnT, e_cp, e_cvi, e_ex20, e_ex21, e_ex30, e_ex31, e_ex32, e_add, e_sub, e_mul, e_quo, e_rem, e_and, e_or, e_xor, e_shl, e_shr, e_eql, e_neq, e_lss, e_leq, e_gtr, e_geq, e_beq, e_bne, e_peq1, e_peq2, e_pne1, e_pne2, e_zeq1, e_zeq2, e_zne1, e_zne2, e_feq1, e_fne1, e_feq2, e_fne2, e_seq, e_sne, e_ta1, e_ta2, Nat.zero_add, Nat.add_zero, Bool.not_true, Bool.not_false]
  refine ⟨by decide, ?_⟩
  refine ⟨by decide, ?_⟩
  refine ⟨by decide, ?_⟩
  rw [p32_8, p32_16, p32_24, Int.fdiv_eq_ediv_of_nonneg _ (by decide), Int.fdiv_eq_ediv_of_nonneg _ (by decide), Int.fdiv_eq_ediv_of_nonneg _ (by decide), wrapu8, wrapu8, wrapu8, wrapu8]
  exact app_four h (by omega) hK
/-- two appends are one -/
theorem app_app {A B : List Int} (hK : AppK w ob (ys ++ (A ++ B)) K) {w1 : World} {ob1 : Option Nat} (hk1 : Kp (fun b => ob = some b) w w1) (ho1 : ob1 = ob ∨ ∃ b, ob1 = some b ∧ w.heap.size ≤ b) : AppK w1 ob1 (ys ++ A ++ B) K := by
  intro w2 t2 ob2 hs hk2 ho2
  rw [List.append_assoc] at hs
  have sz := hk1.size
  refine hK w2 t2 ob2 hs (hk1.then hk2 (fun b hb q => ?_)) ?_
  · rcases ho1 with e | ⟨b', e, hb'⟩
    · rw [← e]; exact q
    · rw [e] at q; cases q; omega
  · rcases ho2 with e | ⟨b', e, hb'⟩
    · rw [e]; exact ho1
    · exact .inr ⟨b', e, by omega⟩
theorem appBE64_ok (h : Sl u1 1 w 5 ob v ys) (hl : ys.length ≤ 3900000000000) (hz : 0 ≤ z) (hK : AppK w ob (ys ++ dB8 z) K) : cl Try.prog 87 #[v, .int .u64 z] K w := by
  apply c87
  unfold s87_p1
  try simp only [e_fd, e_nck, e_pkt, e_pkf, e_gdtt, e_gdtf, e_gdft, e_gdff, e_ift, e_iff, e_not, e_ln, e_lnT, e_cp, e_cvi, e_ex20, e_ex21, e_ex30, e_ex31, e_ex32, e_add, e_sub, e_mul, e_quo, e_rem, e_and, e_or, e_xor, e_shl, e_shr, e_eql, e_neq, e_lss, e_leq, e_gtr, e_geq, e_beq, e_bne, e_peq1, e_peq2, e_pne1, e_pne2, e_zeq1, e_zeq2, e_zne1, e_zne2, e_feq1, e_fne1, e_feq2, e_fne2, e_seq, e_sne, e_ta1, e_ta2, Nat.zero_add, Nat.add_zero, Bool.not_true, Bool.not_false]
  refine ⟨by decide, ?_⟩
  rw [p64_32, Int.fdiv_eq_ediv_of_nonneg _ (by decide), wrapu32]
  refine appBE32_ok h (by omega) (by omega) fun w1 t1 ob1 s1 hk1 ho1 => ?_
  rw [dB4_mod] at s1
  try simp only [e_fd, e_nck, e_pkt, e_pkf, e_gdtt, e_gdtf, e_gdft, e_gdff, e_ift, e_iff, e_not, e_ln, e_lnT, e_cp, e_cvi, e_ex20, e_ex21, e_ex30, e_ex31, e_ex32, e_add, e_sub, e_mul, e_quo, e_rem, e_and, e_or, e_xor, e_shl, e_shr, e_eql, e_neq, e_lss, e_leq, e_gtr, e_geq, e_beq, e_bne, e_peq1, e_peq2, e_pne1, e_pne2, e_zeq1, e_zeq2, e_zne1, e_zne2, e_feq1, e_fne1, e_feq2, e_fne2, e_seq, e_sne, e_ta1, e_ta2, Nat.zero_add, Nat.add_zero, Bool.not_true, Bool.not_false]
  rw [wrapu32]
  refine appBE32_ok s1 (by rw [List.length_append]; show _ + 4 ≤ _; omega) (by omega) ?_
  rw [dB4_mod]
  exact app_app hK hk1 ho1
theorem appLE64_ok (h : Sl u1 1 w 5 ob v ys) (hl : ys.length ≤ 3900000000000) (hz : 0 ≤ z) (hK : AppK w ob (ys ++ dL8 z) K) : cl Try.prog 86 #[v, .int .u64 z] K w := by
  apply c86
  unfold s86_p1
  try simp only [e_fd, e_nck, e_pkt, e_pkf, e_gdtt, e_gdtf, e_gdft, e_gdff, e_ift, e_iff, e_not, e_ln, e_lnT, e_cp, e_cvi, e_ex20, e_ex21, e_ex30, e_ex31, e_ex32, e_add, e_sub, e_mul, e_quo, e_rem, e_and, e_or, e_xor, e_shl, e_shr, e_eql, e_neq, e_lss, e_leq, e_gtr, e_geq, e_beq, e_bne, e_peq1, e_peq2, e_pne1, e_pne2, e_zeq1, e_zeq2, e_zne1, e_zne2, e_feq1, e_fne1, e_feq2, e_fne2, e_seq, e_sne, e_ta1, e_ta2, Nat.zero_add, Nat.add_zero, Bool.not_true, Bool.not_false]
  rw [wrapu32]
  refine appLE32_ok h (by omega) (by omega) fun w1 t1 ob1 s1 hk1 ho1 => ?_
  rw [dL4_mod] at s1
  try simp only [e_fd, e_nck, e_pkt, e_pkf, e_gdtt, e_gdtf, e_gdft, e_gdff, e_ift, e_iff, e_not, e_ln, e_lnT, e_cp, e_cvi, e_ex20, e_ex21, e_ex30, e_ex31, e_ex32, e_add, e_sub, e_mul, e_quo, e_rem, e_and, e_or, e_xor, e_shl, e_shr, e_eql, e_neq, e_lss, e_leq, e_gtr, e_geq, e_beq, e_bne, e_peq1, e_peq2, e_pne1, e_pne2, e_zeq1, e_zeq2, e_zne1, e_zne2, e_feq1, e_fne1, e_feq2, e_fne2, e_seq, e_sne, e_ta1, e_ta2, Nat.zero_add, Nat.add_zero, Bool.not_true, Bool.not_false]
  refine ⟨by decide, ?_⟩
  rw [p64_32, Int.fdiv_eq_ediv_of_nonneg _ (by decide), wrapu32]
  refine appLE32_ok s1 (by rw [List.length_append]; show _ + 4 ≤ _; omega) (by omega) ?_
  rw [dL4_mod]
  exact app_app hK hk1 ho1
theorem extend_ok {width : Int} {little : Bool} (hw : Wid width) (h : Sl u1 1 w 5 ob v ys) (hl : ys.length ≤ 3900000000000) (hz : 0 ≤ z) (hK : AppK w ob (ys ++ enc width little z) K) : cl Try.prog 37 #[v, I width, .bool little, .int .u64 z] K w := by
  apply c37
  unfold s37_p1
  rcases hw with rfl | rfl | rfl
  · simp only [show ((2 : Int) == 2) = true from rfl, e_fd, e_nck, e_pkt, e_pkf, e_gdtt, e_gdtf, e_gdft, e_gdff, e_ift, e_iff, e_not, e_ln, e_lnT, e_cp, e_cvi, e_ex20, e_ex21, e_ex30, e_ex31, e_ex32, e_add, e_sub, e_mul, e_quo, e_rem, e_and, e_or, e_xor, e_shl, e_shr, e_eql, e_neq, e_lss, e_leq, e_gtr, e_geq, e_beq, e_bne, e_peq1, e_peq2, e_pne1, e_pne2, e_zeq1, e_zeq2, e_zne1, e_zne2, e_feq1, e_fne1, e_feq2, e_fne2, e_seq, e_sne, e_ta1, e_ta2, Nat.zero_add, Nat.add_zero, Bool.not_true, Bool.not_false]
    cases little with
    | true =>
      try simp only [e_fd, e_nck, e_pkt, e_pkf, e_gdtt, e_gdtf, e_gdft, e_gdff, e_ift, e_iff, e_not, e_ln, e_lnT, e_cp, e_cvi, e_ex20, e_ex21, e_ex30, e_ex31, e_ex32, e_add, e_sub, e_mul, e_quo, e_rem, e_and, e_or, e_xor, e_shl, e_shr, e_eql, e_neq, e_lss, e_leq, e_gtr, e_geq, e_beq, e_bne, e_peq1, e_peq2, e_pne1, e_pne2, e_zeq1, e_zeq2, e_zne1, e_zne2, e_feq1, e_fne1, e_feq2, e_fne2, e_seq, e_sne, e_ta1, e_ta2, Nat.zero_add, Nat.add_zero, Bool.not_true, Bool.not_false]
      rw [wrapu16]
      refine appLE16_ok h (by omega) (by omega) ?_
      rw [dL2_mod]; exact hK
    | false =>
      simp only [show ((2 : Int) == 2) = true from rfl, e_fd, e_nck, e_pkt, e_pkf, e_gdtt, e_gdtf, e_gdft, e_gdff, e_ift, e_iff, e_not, e_ln, e_lnT, e_cp, e_cvi, e_ex20, e_ex21, e_ex30, e_ex31, e_ex32, e_add, e_sub, e_mul, e_quo, e_rem, e_and, e_or, e_xor, e_shl, e_shr, e_eql, e_neq, e_lss, e_leq, e_gtr, e_geq, e_beq, e_bne, e_peq1, e_peq2, e_pne1, e_pne2, e_zeq1, e_zeq2, e_zne1, e_zne2, e_feq1, e_fne1, e_feq2, e_fne2, e_seq, e_sne, e_ta1, e_ta2, Nat.zero_add, Nat.add_zero, Bool.not_true, Bool.not_false]
      rw [wrapu16]
      refine appBE16_ok h (by omega) (by omega) ?_
      rw [dB2_mod]; exact hK
  · simp only [show ((4 : Int) == 2) = false from rfl, show ((4 : Int) == 4) = true from rfl, e_fd, e_nck, e_pkt, e_pkf, e_gdtt, e_gdtf, e_gdft, e_gdff, e_ift, e_iff, e_not, e_ln, e_lnT, e_cp, e_cvi, e_ex20, e_ex21, e_ex30, e_ex31, e_ex32, e_add, e_sub, e_mul, e_quo, e_rem, e_and, e_or, e_xor, e_shl, e_shr, e_eql, e_neq, e_lss, e_leq, e_gtr, e_geq, e_beq, e_bne, e_peq1, e_peq2, e_pne1, e_pne2, e_zeq1, e_zeq2, e_zne1, e_zne2, e_feq1, e_fne1, e_feq2, e_fne2, e_seq, e_sne, e_ta1, e_ta2, Nat.zero_add, Nat.add_zero, Bool.not_true, Bool.not_false]
    cases little with
    | true =>
      try simp only [e_fd, e_nck, e_pkt, e_pkf, e_gdtt, e_gdtf, e_gdft, e_gdff, e_ift, e_iff, e_not, e_ln, e_lnT, e_cp, e_cvi, e_ex20, e_ex21, e_ex30, e_ex31, e_ex32, e_add, e_sub, e_mul, e_quo, e_rem, e_and, e_or, e_xor, e_shl, e_shr, e_eql, e_neq, e_lss, e_leq, e_gtr, e_geq, e_beq, e_bne, e_peq1, e_peq2, e_pne1, e_pne2, e_zeq1, e_zeq2, e_zne1, e_zne2, e_feq1, e_fne1, e_feq2, e_fne2, e_seq, e_sne, e_ta1, e_ta2, Nat.zero_add, Nat.add_zero, Bool.not_true, Bool.not_false]
      rw [wrapu32]
      refine appLE32_ok h (by omega) (by omega) ?_
      rw [dL4_mod]; exact hK
    | false =>
      simp only [show ((4 : Int) == 4) = true from rfl, e_fd, e_nck, e_pkt, e_pkf, e_gdtt, e_gdtf, e_gdft, e_gdff, e_ift, e_iff, e_not, e_ln, e_lnT, e_cp, e_cvi, e_ex20, e_ex21, e_ex30, e_ex31, e_ex32, e_add, e_sub, e_mul, e_quo, e_rem, e_and, e_or, e_xor, e_shl, e_shr, e_eql, e_neq, e_lss, e_leq, e_gtr, e_geq, e_beq, e_bne, e_peq1, e_peq2, e_pne1, e_pne2, e_zeq1, e_zeq2, e_zne1, e_zne2, e_feq1, e_fne1, e_feq2, e_fne2, e_seq, e_sne, e_ta1, e_ta2, Nat.zero_add, Nat.add_zero, Bool.not_true, Bool.not_false]
      rw [wrapu32]
      refine appBE32_ok h (by omega) (by omega) ?_
      rw [dB4_mod]; exact hK
  · simp only [show ((8 : Int) == 2) = false from rfl, show ((8 : Int) == 4) = false from rfl, e_fd, e_nck, e_pkt, e_pkf, e_gdtt, e_gdtf, e_gdft, e_gdff, e_ift, e_iff, e_not, e_ln, e_lnT, e_cp, e_cvi, e_ex20, e_ex21, e_ex30, e_ex31, e_ex32, e_add, e_sub, e_mul, e_quo, e_rem, e_and, e_or, e_xor, e_shl, e_shr, e_eql, e_neq, e_lss, e_leq, e_gtr, e_geq, e_beq, e_bne, e_peq1, e_peq2, e_pne1, e_pne2, e_zeq1, e_zeq2, e_zne1, e_zne2, e_feq1, e_fne1, e_feq2, e_fne2, e_seq, e_sne, e_ta1, e_ta2, Nat.zero_add, Nat.add_zero, Bool.not_true, Bool.not_false]
    cases little with
    | true =>
      try simp only [e_fd, e_nck, e_pkt, e_pkf, e_gdtt, e_gdtf, e_gdft, e_gdff, e_ift, e_iff, e_not, e_ln, e_lnT, e_cp, e_cvi, e_ex20, e_ex21, e_ex30, e_ex31, e_ex32, e_add, e_sub, e_mul, e_quo, e_rem, e_and, e_or, e_xor, e_shl, e_shr, e_eql, e_neq, e_lss, e_leq, e_gtr, e_geq, e_beq, e_bne, e_peq1, e_peq2, e_pne1, e_pne2, e_zeq1, e_zeq2, e_zne1, e_zne2, e_feq1, e_fne1, e_feq2, e_fne2, e_seq, e_sne, e_ta1, e_ta2, Nat.zero_add, Nat.add_zero, Bool.not_true, Bool.not_false]
      exact appLE64_ok h hl hz hK
    | false =>
      try simp only [e_fd, e_nck, e_pkt, e_pkf, e_gdtt, e_gdtf, e_gdft, e_gdff, e_ift, e_iff, e_not, e_ln, e_lnT, e_cp, e_cvi, e_ex20, e_ex21, e_ex30, e_ex31, e_ex32, e_add, e_sub, e_mul, e_quo, e_rem, e_and, e_or, e_xor, e_shl, e_shr, e_eql, e_neq, e_lss, e_leq, e_gtr, e_geq, e_beq, e_bne, e_peq1, e_peq2, e_pne1, e_pne2, e_zeq1, e_zeq2, e_zne1, e_zne2, e_feq1, e_fne1, e_feq2, e_fne2, e_seq, e_sne, e_ta1, e_ta2, Nat.zero_add, Nat.add_zero, Bool.not_true, Bool.not_false]
      exact appBE64_ok h hl hz hK
end
end Go.Proofs.Qxb6500898a
