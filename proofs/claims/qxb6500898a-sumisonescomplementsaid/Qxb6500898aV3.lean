import Derived.Test.Qxb6500898aV2
namespace Go.Proofs.Qxb6500898a
open Go.Sh Go.RowKit
set_option linter.unusedVariables false
set_option linter.unusedSimpArgs false

/-! ### a stretch of a block -/
abbrev sv (b o n c : Nat) : Value := .slice (some ⟨b, o, none⟩) n c
structure Seg (w : World) (b o : Nat) (ys : List Int) (pre post : List Value) : Prop where
  row : Row w b 5 (pre ++ (ys.map U8 ++ post))
  off : pre.length = o
  by_ : By ys
theorem by_set {ys : List Int} {i : Nat} {z : Int} (h : By ys) (hz : 0 ≤ z ∧ z ≤ 255) : By (ys.set i z) := fun x hx => by
  rcases List.mem_or_eq_of_mem_set hx with q | q
  · exact h x q
  · rw [q]; exact hz
theorem By.app {xs ys : List Int} (h1 : By xs) (h2 : By ys) : By (xs ++ ys) := fun x hx => (List.mem_append.1 hx).elim (h1 x) (h2 x)
theorem By.drop {xs : List Int} (h : By xs) (n : Nat) : By (xs.drop n) := fun x hx => h x (List.mem_of_mem_drop hx)
theorem By.take {xs : List Int} (h : By xs) (n : Nat) : By (xs.take n) := fun x hx => h x (List.mem_of_mem_take hx)
section
variable {w w' : World} {b o c n : Nat} {ys zs xs : List Int} {pre post : List Value} {K : Value → World → Prop} {k : World → Prop} {i : Nat} {z : Int} {v : Value}
theorem Seg.kp {C : Nat → Prop} (h : Seg w b o ys pre post) (hk : Kp C w w') (hn : ¬ C b) : Seg w' b o ys pre post := ⟨hk.row h.row hn, h.off, h.by_⟩
theorem Seg.kp' (h : Seg w b o ys pre post) (hk : Kp (fun _ => False) w w') : Seg w' b o ys pre post := h.kp hk (fun q => q)
theorem Seg.at_ (h : Seg w b o ys pre post) (hi : i < ys.length) : (pre ++ (ys.map U8 ++ post))[o + i]? = some (U8 ys[i]) := by
  have := h.off
  rw [List.getElem?_append_right (by omega), show o + i - pre.length = i by omega, List.getElem?_append_left (by simpa using hi), List.getElem?_map, List.getElem?_eq_getElem hi]; rfl
theorem Seg.ix (hi : i < ys.length) {ii : Int} (hii : ii = (i : Int)) (hK : K (.pointer (some ⟨b, o + i, none⟩)) w) : ixs 1 (sv b o ys.length c) (.int .i64 ii) K w := by
  subst hii
  refine ⟨⟨by omega, by omega⟩, ?_⟩
  have ej : ((i : Int)).toNat = i := by omega
  rw [ej, add_mk, Nat.mul_one]; exact hK
theorem Seg.ld (h : Seg w b o ys pre post) (hi : i < ys.length) (hK : K (U8 ys[i]) w) : ld1 (.pointer (some ⟨b, o + i, none⟩)) K w := ld1_r h.row (h.at_ hi) hK
theorem Seg.st (h : Seg w b o ys pre post) (hi : i < ys.length) (hz : 0 ≤ z ∧ z ≤ 255) (hK : ∀ w', Seg w' b o (ys.set i z) pre post → Kp (fun k => k = b) w w' → w'.heap.size = w.heap.size → k w') : st1 (.pointer (some ⟨b, o + i, none⟩)) (U8 z) k w := by
  have hp := h.off
  refine st1_r h.row (by rw [List.length_append, List.length_append, List.length_map]; omega) rfl fun w1 r1 hk1 hz1 => ?_
  refine hK w1 ⟨?_, h.off, by_set h.by_ hz⟩ hk1 hz1
  have e : (pre ++ (ys.map U8 ++ post)).set (o + i) (U8 z) = pre ++ ((ys.set i z).map U8 ++ post) := by
    rw [List.set_append_right _ _ (by omega), show o + i - pre.length = i by omega, List.set_append_left _ _ (by simpa using hi), List.map_set]
  rw [e] at r1; exact r1
theorem Seg.bs (h : Seg w b o ys pre post) (hc : ys.length ≤ c) (hl : ys.length ≤ 9223372036854775807) : Bs w (sv b o ys.length c) ys := by
  refine ⟨h.by_, .inr (.inr ⟨b, o, c, rfl, hc, hl, fun j hj => ?_⟩)⟩
  rw [List.length_map] at hj
  rw [h.row.cell, h.at_ hj, List.getElem?_map, List.getElem?_eq_getElem hj]; rfl
theorem Seg.drop (h : Seg w b o ys pre post) {d : Nat} (hd : d ≤ ys.length) : Seg w b (o + d) (ys.drop d) (pre ++ (ys.take d).map U8) post := by
  refine ⟨?_, by rw [List.length_append, List.length_map, List.length_take, h.off]; omega, h.by_.drop d⟩
  have := h.row
  rw [List.append_assoc, ← List.append_assoc ((ys.take d).map U8), ← List.map_append, List.take_append_drop]
  exact this
theorem Seg.undrop {d : Nat} (h : Seg w b (o + d) zs (pre ++ (ys.take d).map U8) post) (hd : d ≤ ys.length) (hy : By ys) : Seg w b o (ys.take d ++ zs) pre post := by
  refine ⟨?_, ?_, (hy.take d).app h.by_⟩
  · have := h.row
    rw [List.append_assoc] at this
    rw [List.map_append, List.append_assoc]; exact this
  · have := h.off
    rw [List.length_append, List.length_map, List.length_take] at this
    omega
theorem Seg.take (h : Seg w b o ys pre post) {d : Nat} (hd : d ≤ ys.length) : Seg w b o (ys.take d) pre ((ys.drop d).map U8 ++ post) := by
  refine ⟨?_, h.off, h.by_.take d⟩
  have := h.row
  rw [← List.append_assoc ((ys.take d).map U8), ← List.map_append, List.take_append_drop]
  exact this
theorem Seg.untake {d : Nat} (h : Seg w b o zs pre ((ys.drop d).map U8 ++ post)) (hy : By ys) : Seg w b o (zs ++ ys.drop d) pre post := by
  refine ⟨?_, h.off, h.by_.app (hy.drop d)⟩
  have := h.row
  rw [List.map_append, List.append_assoc]; exact this
/-- the tail of a slice -/
theorem sls_from {d : Nat} {ii : Int} (hii : ii = (d : Int)) (hd : d ≤ n) (hc : d < c) (hnc : n ≤ c) (hK : K (sv b (o + d) (n - d) (c - d)) w) : sls 1 (sv b o n c) (some (.int .i64 ii)) none K w := by
  subst hii
  refine ⟨⟨by omega, by omega, by omega⟩, ?_⟩
  have e0 : ((d : Int)).toNat = d := by omega
  simp only [e0]
  rw [if_neg (by omega), Option.map_some, add_mk, Nat.mul_one]
  exact hK
/-- the head of a slice -/
theorem sls_to {d : Nat} {ii : Int} (hii : ii = (d : Int)) (hd : d ≤ c) (hK : K (sv b o d c) w) : sls 1 (sv b o n c) none (some (.int .i64 ii)) K w := by
  subst hii
  refine ⟨⟨by omega, by omega, by omega⟩, ?_⟩
  have e0 : ((d : Int)).toNat = d := by omega
  have e1 : (if c = ((0 : Nat) : Int).toNat then (some (⟨b, o, none⟩ : Addr)) else (some (⟨b, o, none⟩ : Addr)).map (·.add (((0 : Nat) : Int).toNat * 1))) = some ⟨b, o, none⟩ := by
    split
    · rfl
    · show some ((⟨b, o, none⟩ : Addr).add (0 * 1)) = _; rw [add_mk]; simp
  rw [e1, e0]
  exact hK

/-! ### stores -/
def dB2 (v : Int) : List Int := [v / 256 % 256, v % 256]
def dL2 (v : Int) : List Int := [v % 256, v / 256 % 256]
def dB4 (v : Int) : List Int := [v / 16777216 % 256, v / 65536 % 256, v / 256 % 256, v % 256]
def dL4 (v : Int) : List Int := [v % 256, v / 256 % 256, v / 65536 % 256, v / 16777216 % 256]
def dB8 (v : Int) : List Int := dB4 (v / 4294967296) ++ dB4 v
def dL8 (v : Int) : List Int := dL4 v ++ dL4 (v / 4294967296)
theorem dB2_mod (v : Int) : dB2 (v % 65536) = dB2 v := by unfold dB2; rw [show v % 65536 / 256 % 256 = v / 256 % 256 by omega, show v % 65536 % 256 = v % 256 by omega]
theorem dL2_mod (v : Int) : dL2 (v % 65536) = dL2 v := by unfold dL2; rw [show v % 65536 / 256 % 256 = v / 256 % 256 by omega, show v % 65536 % 256 = v % 256 by omega]
theorem dB4_mod (v : Int) : dB4 (v % 4294967296) = dB4 v := by
  unfold dB4
  rw [show v % 4294967296 / 256 % 256 = v / 256 % 256 by omega, show v % 4294967296 % 256 = v % 256 by omega, show v % 4294967296 / 65536 % 256 = v / 65536 % 256 by omega, show v % 4294967296 / 16777216 % 256 = v / 16777216 % 256 by omega]
theorem dL4_mod (v : Int) : dL4 (v % 4294967296) = dL4 v := by
  unfold dL4
  rw [show v % 4294967296 / 256 % 256 = v / 256 % 256 by omega, show v % 4294967296 % 256 = v % 256 by omega, show v % 4294967296 / 65536 % 256 = v / 65536 % 256 by omega, show v % 4294967296 / 16777216 % 256 = v / 16777216 % 256 by omega]
theorem by_l {xs : List Int} (h : xs.all (fun x => decide (0 ≤ x ∧ x ≤ 255)) = true) : By xs := fun x hx => by
  have := List.all_eq_true.1 h x hx
  simpa using this
theorem dB2_by (v : Int) : By (dB2 v) := fun x hx => by simp only [dB2, List.mem_cons, List.not_mem_nil, or_false] at hx; omega
theorem dL2_by (v : Int) : By (dL2 v) := fun x hx => by simp only [dL2, List.mem_cons, List.not_mem_nil, or_false] at hx; omega
theorem dB4_by (v : Int) : By (dB4 v) := fun x hx => by simp only [dB4, List.mem_cons, List.not_mem_nil, or_false] at hx; omega
theorem dL4_by (v : Int) : By (dL4 v) := fun x hx => by simp only [dL4, List.mem_cons, List.not_mem_nil, or_false] at hx; omega
theorem dB8_by (v : Int) : By (dB8 v) := (dB4_by _).app (dB4_by _)
theorem dL8_by (v : Int) : By (dL8 v) := (dL4_by _).app (dL4_by _)
theorem set2 {a b' : Int} (h : 2 ≤ ys.length) : (ys.set 0 a).set 1 b' = [a, b'] ++ ys.drop 2 := by
  match ys, h with
  | y0 :: y1 :: r, _ => rfl
theorem set4 {a b' c' d' : Int} (h : 4 ≤ ys.length) : (((ys.set 0 a).set 1 b').set 2 c').set 3 d' = [a, b', c', d'] ++ ys.drop 4 := by
  match ys, h with
  | y0 :: y1 :: y2 :: y3 :: r, _ => rfl
theorem PutBE16_ok (h : Seg w b o ys pre post) (hl : 2 ≤ ys.length) (hv : 0 ≤ z) (hK : ∀ w', Seg w' b o (dB2 z ++ ys.drop 2) pre post → Kp (fun k => k = b) w w' → w'.heap.size = w.heap.size → K (.tuple #[]) w') : cl Try.prog 77 #[sv b o ys.length c, .int .u16 z] K w := by
  apply c77
  unfold s77_p1
  refine Seg.ix (i := 1) (by omega) rfl ?_
  refine h.ld (by omega) ?_
  try simp only [e_fd, e_nck, e_pkt, e_pkf, e_gdtt, e_gdtf, e_gdft, e_gdff, e_ift, e_iff, e_not, e_ln, e_lnT, e_cp, e_cvi, e_ex20, e_ex21, e_ex30, e_ex31, e_ex32, e_add, e_sub, e_mul, e_quo, e_rem, e_and, e_or, e_xor, e_shl, e_shr, e_eql, e_neq, e_lss, e_leq, e_gtr, e_geq, e_beq, e_bne, e_peq1, e_peq2, e_pne1, e_pne2, e_zeq1, e_zeq2, e_zne1, e_zne2, e_feq1, e_fne1, e_feq2, e_fne2, e_seq, e_sne, e_ta1, e_ta2, Nat.zero_add, Nat.add_zero, Bool.not_true, Bool.not_false]
  refine ⟨by decide, ?_⟩
  rw [p16_8, Int.fdiv_eq_ediv_of_nonneg _ (by decide), wrapu8, wrapu8]
  refine Seg.ix (i := 0) (by omega) rfl ?_
  refine h.st (by omega) (by omega) fun w1 h1 hk1 hz1 => ?_
  rw [show ys.length = (ys.set 0 (z / 256 % 256)).length by simp]
  refine Seg.ix (i := 1) (by simp; omega) rfl ?_
  refine h1.st (by simp; omega) (by omega) fun w2 h2 hk2 hz2 => ?_
  rw [set2 hl] at h2
  exact hK w2 h2 (hk1.trans hk2) (by omega)
theorem PutLE16_ok (h : Seg w b o ys pre post) (hl : 2 ≤ ys.length) (hv : 0 ≤ z) (hK : ∀ w', Seg w' b o (dL2 z ++ ys.drop 2) pre post → Kp (fun k => k = b) w w' → w'.heap.size = w.heap.size → K (.tuple #[]) w') : cl Try.prog 76 #[sv b o ys.length c, .int .u16 z] K w := by
  apply c76
  unfold s76_p1
  refine Seg.ix (i := 1) (by omega) rfl ?_
  refine h.ld (by omega) ?_
  try simp only [e_fd, e_nck, e_pkt, e_pkf, e_gdtt, e_gdtf, e_gdft, e_gdff, e_ift, e_iff, e_not, e_ln, e_lnT, e_cp, e_cvi, e_ex20, e_ex21, e_ex30, e_ex31, e_ex32, e_add, e_sub, e_mul, e_quo, e_rem, e_and, e_or, e_xor, e_shl, e_shr, e_eql, e_neq, e_lss, e_leq, e_gtr, e_geq, e_beq, e_bne, e_peq1, e_peq2, e_pne1, e_pne2, e_zeq1, e_zeq2, e_zne1, e_zne2, e_feq1, e_fne1, e_feq2, e_fne2, e_seq, e_sne, e_ta1, e_ta2, Nat.zero_add, Nat.add_zero, Bool.not_true, Bool.not_false]
  rw [wrapu8]
  refine Seg.ix (i := 0) (by omega) rfl ?_
  refine h.st (by omega) (by omega) fun w1 h1 hk1 hz1 => ?_
  try simp only [e_fd, e_nck, e_pkt, e_pkf, e_gdtt, e_gdtf, e_gdft, e_gdff, e_ift, e_iff, e_not, e_ln, e_lnT, e_cp, e_cvi, e_ex20, e_ex21, e_ex30, e_ex31, e_ex32, e_add, e_sub, e_mul, e_quo, e_rem, e_and, e_or, e_xor, e_shl, e_shr, e_eql, e_neq, e_lss, e_leq, e_gtr, e_geq, e_beq, e_bne, e_peq1, e_peq2, e_pne1, e_pne2, e_zeq1, e_zeq2, e_zne1, e_zne2, e_feq1, e_fne1, e_feq2, e_fne2, e_seq, e_sne, e_ta1, e_ta2, Nat.zero_add, Nat.add_zero, Bool.not_true, Bool.not_false]
  refine ⟨by decide, ?_⟩
  rw [p16_8, Int.fdiv_eq_ediv_of_nonneg _ (by decide), wrapu8]
  rw [show ys.length = (ys.set 0 (z % 256)).length by simp]
  refine Seg.ix (i := 1) (by simp; omega) rfl ?_
  refine h1.st (by simp; omega) (by omega) fun w2 h2 hk2 hz2 => ?_
  rw [set2 hl] at h2
  exact hK w2 h2 (hk1.trans hk2) (by omega)
theorem PutBE32_ok (h : Seg w b o ys pre post) (hl : 4 ≤ ys.length) (hv : 0 ≤ z) (hK : ∀ w', Seg w' b o (dB4 z ++ ys.drop 4) pre post → Kp (fun k => k = b) w w' → w'.heap.size = w.heap.size → K (.tuple #[]) w') : cl Try.prog 79 #[sv b o ys.length c, .int .u32 z] K w := by
  apply c79
  unfold s79_p1
  refine Seg.ix (i := 3) (by omega) rfl ?_
  refine h.ld (by omega) ?_
  try simp only [e_fd, e_nck, e_pkt, e_pkf, e_gdtt, e_gdtf, e_gdft, e_gdff, e_ift, e_iff, e_not, e_ln, e_lnT, e_cp, e_cvi, e_ex20, e_ex21, e_ex30, e_ex31, e_ex32, e_add, e_sub, e_mul, e_quo, e_rem, e_and, e_or, e_xor, e_shl, e_shr, e_eql, e_neq, e_lss, e_leq, e_gtr, e_geq, e_beq, e_bne, e_peq1, e_peq2, e_pne1, e_pne2, e_zeq1, e_zeq2, e_zne1, e_zne2, e_feq1, e_fne1, e_feq2, e_fne2, e_seq, e_sne, e_ta1, e_ta2, Nat.zero_add, Nat.add_zero, Bool.not_true, Bool.not_false]
  refine ⟨by decide, ?_⟩
  rw [p32_24, Int.fdiv_eq_ediv_of_nonneg _ (by decide), wrapu8 (z / 16777216)]
  refine Seg.ix (i := 0) (by omega) rfl ?_
  refine h.st (by omega) (by omega) fun w1 h1 hk1 hz1 => ?_
  try simp only [e_fd, e_nck, e_pkt, e_pkf, e_gdtt, e_gdtf, e_gdft, e_gdff, e_ift, e_iff, e_not, e_ln, e_lnT, e_cp, e_cvi, e_ex20, e_ex21, e_ex30, e_ex31, e_ex32, e_add, e_sub, e_mul, e_quo, e_rem, e_and, e_or, e_xor, e_shl, e_shr, e_eql, e_neq, e_lss, e_leq, e_gtr, e_geq, e_beq, e_bne, e_peq1, e_peq2, e_pne1, e_pne2, e_zeq1, e_zeq2, e_zne1, e_zne2, e_feq1, e_fne1, e_feq2, e_fne2, e_seq, e_sne, e_ta1, e_ta2, Nat.zero_add, Nat.add_zero, Bool.not_true, Bool.not_false]
  refine ⟨by decide, ?_⟩
  rw [p32_16, Int.fdiv_eq_ediv_of_nonneg _ (by decide), wrapu8 (z / 65536)]
  rw [show ys.length = (ys.set 0 (z / 16777216 % 256)).length by simp]
  refine Seg.ix (i := 1) (by simp; omega) rfl ?_
  refine h1.st (by simp; omega) (by omega) fun w2 h2 hk2 hz2 => ?_
  try simp only [e_fd, e_nck, e_pkt, e_pkf, e_gdtt, e_gdtf, e_gdft, e_gdff, e_ift, e_iff, e_not, e_ln, e_lnT, e_cp, e_cvi, e_ex20, e_ex21, e_ex30, e_ex31, e_ex32, e_add, e_sub, e_mul, e_quo, e_rem, e_and, e_or, e_xor, e_shl, e_shr, e_eql, e_neq, e_lss, e_leq, e_gtr, e_geq, e_beq, e_bne, e_peq1, e_peq2, e_pne1, e_pne2, e_zeq1, e_zeq2, e_zne1, e_zne2, e_feq1, e_fne1, e_feq2, e_fne2, e_seq, e_sne, e_ta1, e_ta2, Nat.zero_add, Nat.add_zero, Bool.not_true, Bool.not_false]
  refine ⟨by decide, ?_⟩
  rw [p32_8, Int.fdiv_eq_ediv_of_nonneg _ (by decide), wrapu8 (z / 256)]
  rw [show (ys.set 0 (z / 16777216 % 256)).length = ((ys.set 0 (z / 16777216 % 256)).set 1 (z / 65536 % 256)).length by simp]
  refine Seg.ix (i := 2) (by simp; omega) rfl ?_
  refine h2.st (by simp; omega) (by omega) fun w3 h3 hk3 hz3 => ?_
  try simp only [e_fd, e_nck, e_pkt, e_pkf, e_gdtt, e_gdtf, e_gdft, e_gdff, e_ift, e_iff, e_not, e_ln, e_lnT, e_cp, e_cvi, e_ex20, e_ex21, e_ex30, e_ex31, e_ex32, e_add, e_sub, e_mul, e_quo, e_rem, e_and, e_or, e_xor, e_shl, e_shr, e_eql, e_neq, e_lss, e_leq, e_gtr, e_geq, e_beq, e_bne, e_peq1, e_peq2, e_pne1, e_pne2, e_zeq1, e_zeq2, e_zne1, e_zne2, e_feq1, e_fne1, e_feq2, e_fne2, e_seq, e_sne, e_ta1, e_ta2, Nat.zero_add, Nat.add_zero, Bool.not_true, Bool.not_false]
  rw [wrapu8 z]
  rw [show ((ys.set 0 (z / 16777216 % 256)).set 1 (z / 65536 % 256)).length = (((ys.set 0 (z / 16777216 % 256)).set 1 (z / 65536 % 256)).set 2 (z / 256 % 256)).length by simp]
  refine Seg.ix (i := 3) (by simp; omega) rfl ?_
  refine h3.st (by simp; omega) (by omega) fun w4 h4 hk4 hz4 => ?_
  rw [set4 hl] at h4
  exact hK w4 h4 (((hk1.trans hk2).trans hk3).trans hk4) (by omega)
theorem PutLE32_ok (h : Seg w b o ys pre post) (hl : 4 ≤ ys.length) (hv : 0 ≤ z) (hK : ∀ w', Seg w' b o (dL4 z ++ ys.drop 4) pre post → Kp (fun k => k = b) w w' → w'.heap.size = w.heap.size → K (.tuple #[]) w') : cl Try.prog 78 #[sv b o ys.length c, .int .u32 z] K w := by
  apply c78
  unfold s78_p1
  refine Seg.ix (i := 3) (by omega) rfl ?_
  refine h.ld (by omega) ?_
  try simp only [e_fd, e_nck, e_pkt, e_pkf, e_gdtt, e_gdtf, e_gdft, e_gdff, e_ift, e_iff, e_not, e_ln, e_lnT, e_cp, e_cvi, e_ex20, e_ex21, e_ex30, e_ex31, e_ex32, e_add, e_sub, e_mul, e_quo, e_rem, e_and, e_or, e_xor, e_shl, e_shr, e_eql, e_neq, e_lss, e_leq, e_gtr, e_geq, e_beq, e_bne, e_peq1, e_peq2, e_pne1, e_pne2, e_zeq1, e_zeq2, e_zne1, e_zne2, e_feq1, e_fne1, e_feq2, e_fne2, e_seq, e_sne, e_ta1, e_ta2, Nat.zero_add, Nat.add_zero, Bool.not_true, Bool.not_false]
  rw [wrapu8 z]
  refine Seg.ix (i := 0) (by omega) rfl ?_
  refine h.st (by omega) (by omega) fun w1 h1 hk1 hz1 => ?_
  try simp only [e_fd, e_nck, e_pkt, e_pkf, e_gdtt, e_gdtf, e_gdft, e_gdff, e_ift, e_iff, e_not, e_ln, e_lnT, e_cp, e_cvi, e_ex20, e_ex21, e_ex30, e_ex31, e_ex32, e_add, e_sub, e_mul, e_quo, e_rem, e_and, e_or, e_xor, e_shl, e_shr, e_eql, e_neq, e_lss, e_leq, e_gtr, e_geq, e_beq, e_bne, e_peq1, e_peq2, e_pne1, e_pne2, e_zeq1, e_zeq2, e_zne1, e_zne2, e_feq1, e_fne1, e_feq2, e_fne2, e_seq, e_sne, e_ta1, e_ta2, Nat.zero_add, Nat.add_zero, Bool.not_true, Bool.not_false]
  refine ⟨by decide, ?_⟩
  rw [p32_8, Int.fdiv_eq_ediv_of_nonneg _ (by decide), wrapu8 (z / 256)]
  rw [show ys.length = (ys.set 0 (z % 256)).length by simp]
  refine Seg.ix (i := 1) (by simp; omega) rfl ?_
  refine h1.st (by simp; omega) (by omega) fun w2 h2 hk2 hz2 => ?_
  try simp only [e_fd, e_nck, e_pkt, e_pkf, e_gdtt, e_gdtf, e_gdft, e_gdff, e_ift, e_iff, e_not, e_ln, e_lnT, e_cp, e_cvi, e_ex20, e_ex21, e_ex30, e_ex31, e_ex32, e_add, e_sub, e_mul, e_quo, e_rem, e_and, e_or, e_xor, e_shl, e_shr, e_eql, e_neq, e_lss, e_leq, e_gtr, e_geq, e_beq, e_bne, e_peq1, e_peq2, e_pne1, e_pne2, e_zeq1, e_zeq2, e_zne1, e_zne2, e_feq1, e_fne1, e_feq2, e_fne2, e_seq, e_sne, e_ta1, e_ta2, Nat.zero_add, Nat.add_zero, Bool.not_true, Bool.not_false]
  refine ⟨by decide, ?_⟩
  rw [p32_16, Int.fdiv_eq_ediv_of_nonneg _ (by decide), wrapu8 (z / 65536)]
  rw [show (ys.set 0 (z % 256)).length = ((ys.set 0 (z % 256)).set 1 (z / 256 % 256)).length by simp]
  refine Seg.ix (i := 2) (by simp; omega) rfl ?_
  refine h2.st (by simp; omega) (by omega) fun w3 h3 hk3 hz3 => ?_
  try simp only [e_fd, e_nck, e_pkt, e_pkf, e_gdtt, e_gdtf, e_gdft, e_gdff, e_ift, e_iff, e_not, e_ln, e_lnT, e_cp, e_cvi, e_ex20, e_ex21, e_ex30, e_ex31, e_ex32, e_add, e_sub, e_mul, e_quo, e_rem, e_and, e_or, e_xor, e_shl, e_shr, e_eql, e_neq, e_lss, e_leq, e_gtr, e_geq, e_beq, e_bne, e_peq1, e_peq2, e_pne1, e_pne2, e_zeq1, e_zeq2, e_zne1, e_zne2, e_feq1, e_fne1, e_feq2, e_fne2, e_seq, e_sne, e_ta1, e_ta2, Nat.zero_add, Nat.add_zero, Bool.not_true, Bool.not_false]
  refine ⟨by decide, ?_⟩
  rw [p32_24, Int.fdiv_eq_ediv_of_nonneg _ (by decide), wrapu8 (z / 16777216)]
  rw [show ((ys.set 0 (z % 256)).set 1 (z / 256 % 256)).length = (((ys.set 0 (z % 256)).set 1 (z / 256 % 256)).set 2 (z / 65536 % 256)).length by simp]
  refine Seg.ix (i := 3) (by simp; omega) rfl ?_
  refine h3.st (by simp; omega) (by omega) fun w4 h4 hk4 hz4 => ?_
  rw [set4 hl] at h4
  exact hK w4 h4 (((hk1.trans hk2).trans hk3).trans hk4) (by omega)
theorem two4 {A B : List Int} (hA : A.length = 4) (hB : B.length = 4) (h : 8 ≤ ys.length) : (A ++ ys.drop 4).take 4 ++ (B ++ ((A ++ ys.drop 4).drop 4).drop 4) = (A ++ B) ++ ys.drop 8 := by
  rw [List.take_left' hA, List.drop_left' hA, List.drop_drop, List.append_assoc]
theorem PutBE64_ok (h : Seg w b o ys pre post) (hl : 8 ≤ ys.length) (hc : ys.length ≤ c) (hv : 0 ≤ z) (hK : ∀ w', Seg w' b o (dB8 z ++ ys.drop 8) pre post → Kp (fun k => k = b) w w' → w'.heap.size = w.heap.size → K (.tuple #[]) w') : cl Try.prog 81 #[sv b o ys.length c, .int .u64 z] K w := by
  apply c81
  unfold s81_p1
  refine Seg.ix (i := 7) (by omega) rfl ?_
  refine h.ld (by omega) ?_
  try simp only [e_fd, e_nck, e_pkt, e_pkf, e_gdtt, e_gdtf, e_gdft, e_gdff, e_ift, e_iff, e_not, e_ln, e_lnT, e_cp, e_cvi, e_ex20, e_ex21, e_ex30, e_ex31, e_ex32, e_add, e_sub, e_mul, e_quo, e_rem, e_and, e_or, e_xor, e_shl, e_shr, e_eql, e_neq, e_lss, e_leq, e_gtr, e_geq, e_beq, e_bne, e_peq1, e_peq2, e_pne1, e_pne2, e_zeq1, e_zeq2, e_zne1, e_zne2, e_feq1, e_fne1, e_feq2, e_fne2, e_seq, e_sne, e_ta1, e_ta2, Nat.zero_add, Nat.add_zero, Bool.not_true, Bool.not_false]
  refine ⟨by decide, ?_⟩
  rw [p64_32, Int.fdiv_eq_ediv_of_nonneg _ (by decide), wrapu32 (z / 4294967296)]
  refine PutBE32_ok h (by omega) (by omega) fun w1 h1 hk1 hz1 => ?_
  rw [dB4_mod] at h1
  refine sls_from (d := 4) rfl (by omega) (by omega) hc ?_
  try simp only [e_fd, e_nck, e_pkt, e_pkf, e_gdtt, e_gdtf, e_gdft, e_gdff, e_ift, e_iff, e_not, e_ln, e_lnT, e_cp, e_cvi, e_ex20, e_ex21, e_ex30, e_ex31, e_ex32, e_add, e_sub, e_mul, e_quo, e_rem, e_and, e_or, e_xor, e_shl, e_shr, e_eql, e_neq, e_lss, e_leq, e_gtr, e_geq, e_beq, e_bne, e_peq1, e_peq2, e_pne1, e_pne2, e_zeq1, e_zeq2, e_zne1, e_zne2, e_feq1, e_fne1, e_feq2, e_fne2, e_seq, e_sne, e_ta1, e_ta2, Nat.zero_add, Nat.add_zero, Bool.not_true, Bool.not_false]
  rw [wrapu32 z]
  have hlen : (dB4 (z / 4294967296) ++ ys.drop 4).length = ys.length := by rw [List.length_append, List.length_drop]; show 4 + _ = _; omega
  have h1' := h1.drop (d := 4) (by omega)
  rw [show ys.length - 4 = ((dB4 (z / 4294967296) ++ ys.drop 4).drop 4).length by rw [List.length_drop]; omega]
  refine PutBE32_ok h1' (by rw [List.length_drop]; omega) (by omega) fun w2 h2 hk2 hz2 => ?_
  rw [dB4_mod] at h2
  have h3 := h2.undrop (by omega) h1.by_
  rw [two4 rfl rfl hl] at h3
  exact hK w2 h3 (hk1.trans hk2) (by omega)
theorem PutLE64_ok (h : Seg w b o ys pre post) (hl : 8 ≤ ys.length) (hc : ys.length ≤ c) (hv : 0 ≤ z) (hK : ∀ w', Seg w' b o (dL8 z ++ ys.drop 8) pre post → Kp (fun k => k = b) w w' → w'.heap.size = w.heap.size → K (.tuple #[]) w') : cl Try.prog 80 #[sv b o ys.length c, .int .u64 z] K w := by
  apply c80
  unfold s80_p1
  refine Seg.ix (i := 7) (by omega) rfl ?_
  refine h.ld (by omega) ?_
  try simp only [e_fd, e_nck, e_pkt, e_pkf, e_gdtt, e_gdtf, e_gdft, e_gdff, e_ift, e_iff, e_not, e_ln, e_lnT, e_cp, e_cvi, e_ex20, e_ex21, e_ex30, e_ex31, e_ex32, e_add, e_sub, e_mul, e_quo, e_rem, e_and, e_or, e_xor, e_shl, e_shr, e_eql, e_neq, e_lss, e_leq, e_gtr, e_geq, e_beq, e_bne, e_peq1, e_peq2, e_pne1, e_pne2, e_zeq1, e_zeq2, e_zne1, e_zne2, e_feq1, e_fne1, e_feq2, e_fne2, e_seq, e_sne, e_ta1, e_ta2, Nat.zero_add, Nat.add_zero, Bool.not_true, Bool.not_false]
  rw [wrapu32 z]
  refine PutLE32_ok h (by omega) (by omega) fun w1 h1 hk1 hz1 => ?_
  rw [dL4_mod] at h1
  refine sls_from (d := 4) rfl (by omega) (by omega) hc ?_
  try simp only [e_fd, e_nck, e_pkt, e_pkf, e_gdtt, e_gdtf, e_gdft, e_gdff, e_ift, e_iff, e_not, e_ln, e_lnT, e_cp, e_cvi, e_ex20, e_ex21, e_ex30, e_ex31, e_ex32, e_add, e_sub, e_mul, e_quo, e_rem, e_and, e_or, e_xor, e_shl, e_shr, e_eql, e_neq, e_lss, e_leq, e_gtr, e_geq, e_beq, e_bne, e_peq1, e_peq2, e_pne1, e_pne2, e_zeq1, e_zeq2, e_zne1, e_zne2, e_feq1, e_fne1, e_feq2, e_fne2, e_seq, e_sne, e_ta1, e_ta2, Nat.zero_add, Nat.add_zero, Bool.not_true, Bool.not_false]
  refine ⟨by decide, ?_⟩
  rw [p64_32, Int.fdiv_eq_ediv_of_nonneg _ (by decide), wrapu32 (z / 4294967296)]
  have hlen : (dL4 z ++ ys.drop 4).length = ys.length := by rw [List.length_append, List.length_drop]; show 4 + _ = _; omega
  have h1' := h1.drop (d := 4) (by omega)
  rw [show ys.length - 4 = ((dL4 z ++ ys.drop 4).drop 4).length by rw [List.length_drop]; omega]
  refine PutLE32_ok h1' (by rw [List.length_drop]; omega) (by omega) fun w2 h2 hk2 hz2 => ?_
  rw [dL4_mod] at h2
  have h3 := h2.undrop (by omega) h1.by_
  rw [two4 rfl rfl hl] at h3
  exact hK w2 h3 (hk1.trans hk2) (by omega)
/-- the octets of a number -/
def enc (width : Int) (little : Bool) (v : Int) : List Int :=
  if width = 2 then (if little then dL2 v else dB2 v) else if width = 4 then (if little then dL4 v else dB4 v) else (if little then dL8 v else dB8 v)
abbrev Wid (width : Int) : Prop := width = 2 ∨ width = 4 ∨ width = 8
theorem enc_len {width : Int} {little : Bool} (h : Wid width) : ((enc width little z).length : Int) = width := by
  rcases h with rfl | rfl | rfl <;> cases little <;> rfl
theorem enc_by {width : Int} {little : Bool} : By (enc width little z) := by
  unfold enc
  split
  · split
    · exact dL2_by z
    · exact dB2_by z
  · split
    · split
      · exact dL4_by z
      · exact dB4_by z
    · split
      · exact dL8_by z
      · exact dB8_by z
theorem store_ok {width : Int} {little : Bool} (hw : Wid width) (h : Seg w b o ys pre post) (hl : width ≤ ys.length) (hc : ys.length ≤ c) (hv : 0 ≤ z) (hK : ∀ w', Seg w' b o (enc width little z ++ ys.drop width.toNat) pre post → Kp (fun k => k = b) w w' → w'.heap.size = w.heap.size → K (.tuple #[]) w') :
    cl Try.prog 36 #[sv b o ys.length c, I width, .bool little, .int .u64 z] K w := by
  apply c36
  unfold s36_p1
  rcases hw with rfl | rfl | rfl
  · simp only [show ((2 : Int) == 2) = true from rfl, e_fd, e_nck, e_pkt, e_pkf, e_gdtt, e_gdtf, e_gdft, e_gdff, e_ift, e_iff, e_not, e_ln, e_lnT, e_cp, e_cvi, e_ex20, e_ex21, e_ex30, e_ex31, e_ex32, e_add, e_sub, e_mul, e_quo, e_rem, e_and, e_or, e_xor, e_shl, e_shr, e_eql, e_neq, e_lss, e_leq, e_gtr, e_geq, e_beq, e_bne, e_peq1, e_peq2, e_pne1, e_pne2, e_zeq1, e_zeq2, e_zne1, e_zne2, e_feq1, e_fne1, e_feq2, e_fne2, e_seq, e_sne, e_ta1, e_ta2, Nat.zero_add, Nat.add_zero, Bool.not_true, Bool.not_false]
    cases little with
    | true =>
      try simp only [e_fd, e_nck, e_pkt, e_pkf, e_gdtt, e_gdtf, e_gdft, e_gdff, e_ift, e_iff, e_not, e_ln, e_lnT, e_cp, e_cvi, e_ex20, e_ex21, e_ex30, e_ex31, e_ex32, e_add, e_sub, e_mul, e_quo, e_rem, e_and, e_or, e_xor, e_shl, e_shr, e_eql, e_neq, e_lss, e_leq, e_gtr, e_geq, e_beq, e_bne, e_peq1, e_peq2, e_pne1, e_pne2, e_zeq1, e_zeq2, e_zne1, e_zne2, e_feq1, e_fne1, e_feq2, e_fne2, e_seq, e_sne, e_ta1, e_ta2, Nat.zero_add, Nat.add_zero, Bool.not_true, Bool.not_false]
      rw [wrapu16]
      refine PutLE16_ok h (by omega) (by omega) fun w1 h1 hk1 hz1 => ?_
      rw [dL2_mod] at h1
      exact hK w1 h1 hk1 hz1
    | false =>
      simp only [show ((2 : Int) == 2) = true from rfl, e_fd, e_nck, e_pkt, e_pkf, e_gdtt, e_gdtf, e_gdft, e_gdff, e_ift, e_iff, e_not, e_ln, e_lnT, e_cp, e_cvi, e_ex20, e_ex21, e_ex30, e_ex31, e_ex32, e_add, e_sub, e_mul, e_quo, e_rem, e_and, e_or, e_xor, e_shl, e_shr, e_eql, e_neq, e_lss, e_leq, e_gtr, e_geq, e_beq, e_bne, e_peq1, e_peq2, e_pne1, e_pne2, e_zeq1, e_zeq2, e_zne1, e_zne2, e_feq1, e_fne1, e_feq2, e_fne2, e_seq, e_sne, e_ta1, e_ta2, Nat.zero_add, Nat.add_zero, Bool.not_true, Bool.not_false]
      rw [wrapu16]
      refine PutBE16_ok h (by omega) (by omega) fun w1 h1 hk1 hz1 => ?_
      rw [dB2_mod] at h1
      exact hK w1 h1 hk1 hz1
  · simp only [show ((4 : Int) == 2) = false from rfl, show ((4 : Int) == 4) = true from rfl, e_fd, e_nck, e_pkt, e_pkf, e_gdtt, e_gdtf, e_gdft, e_gdff, e_ift, e_iff, e_not, e_ln, e_lnT, e_cp, e_cvi, e_ex20, e_ex21, e_ex30, e_ex31, e_ex32, e_add, e_sub, e_mul, e_quo, e_rem, e_and, e_or, e_xor, e_shl, e_shr, e_eql, e_neq, e_lss, e_leq, e_gtr, e_geq, e_beq, e_bne, e_peq1, e_peq2, e_pne1, e_pne2, e_zeq1, e_zeq2, e_zne1, e_zne2, e_feq1, e_fne1, e_feq2, e_fne2, e_seq, e_sne, e_ta1, e_ta2, Nat.zero_add, Nat.add_zero, Bool.not_true, Bool.not_false]
    cases little with
    | true =>
      try simp only [e_fd, e_nck, e_pkt, e_pkf, e_gdtt, e_gdtf, e_gdft, e_gdff, e_ift, e_iff, e_not, e_ln, e_lnT, e_cp, e_cvi, e_ex20, e_ex21, e_ex30, e_ex31, e_ex32, e_add, e_sub, e_mul, e_quo, e_rem, e_and, e_or, e_xor, e_shl, e_shr, e_eql, e_neq, e_lss, e_leq, e_gtr, e_geq, e_beq, e_bne, e_peq1, e_peq2, e_pne1, e_pne2, e_zeq1, e_zeq2, e_zne1, e_zne2, e_feq1, e_fne1, e_feq2, e_fne2, e_seq, e_sne, e_ta1, e_ta2, Nat.zero_add, Nat.add_zero, Bool.not_true, Bool.not_false]
      rw [wrapu32]
      refine PutLE32_ok h (by omega) (by omega) fun w1 h1 hk1 hz1 => ?_
      rw [dL4_mod] at h1
      exact hK w1 h1 hk1 hz1
    | false =>
      simp only [show ((4 : Int) == 4) = true from rfl, e_fd, e_nck, e_pkt, e_pkf, e_gdtt, e_gdtf, e_gdft, e_gdff, e_ift, e_iff, e_not, e_ln, e_lnT, e_cp, e_cvi, e_ex20, e_ex21, e_ex30, e_ex31, e_ex32, e_add, e_sub, e_mul, e_quo, e_rem, e_and, e_or, e_xor, e_shl, e_shr, e_eql, e_neq, e_lss, e_leq, e_gtr, e_geq, e_beq, e_bne, e_peq1, e_peq2, e_pne1, e_pne2, e_zeq1, e_zeq2, e_zne1, e_zne2, e_feq1, e_fne1, e_feq2, e_fne2, e_seq, e_sne, e_ta1, e_ta2, Nat.zero_add, Nat.add_zero, Bool.not_true, Bool.not_false]
      rw [wrapu32]
      refine PutBE32_ok h (by omega) (by omega) fun w1 h1 hk1 hz1 => ?_
      rw [dB4_mod] at h1
      exact hK w1 h1 hk1 hz1
  · simp only [show ((8 : Int) == 2) = false from rfl, show ((8 : Int) == 4) = false from rfl, e_fd, e_nck, e_pkt, e_pkf, e_gdtt, e_gdtf, e_gdft, e_gdff, e_ift, e_iff, e_not, e_ln, e_lnT, e_cp, e_cvi, e_ex20, e_ex21, e_ex30, e_ex31, e_ex32, e_add, e_sub, e_mul, e_quo, e_rem, e_and, e_or, e_xor, e_shl, e_shr, e_eql, e_neq, e_lss, e_leq, e_gtr, e_geq, e_beq, e_bne, e_peq1, e_peq2, e_pne1, e_pne2, e_zeq1, e_zeq2, e_zne1, e_zne2, e_feq1, e_fne1, e_feq2, e_fne2, e_seq, e_sne, e_ta1, e_ta2, Nat.zero_add, Nat.add_zero, Bool.not_true, Bool.not_false]
    cases little with
    | true =>
      try simp only [e_fd, e_nck, e_pkt, e_pkf, e_gdtt, e_gdtf, e_gdft, e_gdff, e_ift, e_iff, e_not, e_ln, e_lnT, e_cp, e_cvi, e_ex20, e_ex21, e_ex30, e_ex31, e_ex32, e_add, e_sub, e_mul, e_quo, e_rem, e_and, e_or, e_xor, e_shl, e_shr, e_eql, e_neq, e_lss, e_leq, e_gtr, e_geq, e_beq, e_bne, e_peq1, e_peq2, e_pne1, e_pne2, e_zeq1, e_zeq2, e_zne1, e_zne2, e_feq1, e_fne1, e_feq2, e_fne2, e_seq, e_sne, e_ta1, e_ta2, Nat.zero_add, Nat.add_zero, Bool.not_true, Bool.not_false]
      exact PutLE64_ok h (by omega) hc hv hK
    | false =>
      try simp only [e_fd, e_nck, e_pkt, e_pkf, e_gdtt, e_gdtf, e_gdft, e_gdff, e_ift, e_iff, e_not, e_ln, e_lnT, e_cp, e_cvi, e_ex20, e_ex21, e_ex30, e_ex31, e_ex32, e_add, e_sub, e_mul, e_quo, e_rem, e_and, e_or, e_xor, e_shl, e_shr, e_eql, e_neq, e_lss, e_leq, e_gtr, e_geq, e_beq, e_bne, e_peq1, e_peq2, e_pne1, e_pne2, e_zeq1, e_zeq2, e_zne1, e_zne2, e_feq1, e_fne1, e_feq2, e_fne2, e_seq, e_sne, e_ta1, e_ta2, Nat.zero_add, Nat.add_zero, Bool.not_true, Bool.not_false]
      exact PutBE64_ok h (by omega) hc hv hK
/-- a number out of its octets -/
def dec2 (width : Int) (little : Bool) (xs : List Int) : Int :=
  if width = 2 then (if little then le2n xs else be2 xs) else if width = 4 then (if little then le4 xs else be4 xs) else (if little then le8 xs else be8 xs)
theorem load_ok {width : Int} {little : Bool} (hw : Wid width) (h : Bs w v xs) (hl : width ≤ xs.length) (hK : ∀ w', Kp (fun _ => False) w w' → K (.int .u64 (dec2 width little xs)) w') :
    cl Try.prog 35 #[v, I width, .bool little] K w := by
  have b0 := h.gb 0
  have b1 := h.gb 1
  have b2 := h.gb 2
  have b3 := h.gb 3
  apply c35
  unfold s35_p1
  rcases hw with rfl | rfl | rfl
  · simp only [show ((2 : Int) == 2) = true from rfl, e_fd, e_nck, e_pkt, e_pkf, e_gdtt, e_gdtf, e_gdft, e_gdff, e_ift, e_iff, e_not, e_ln, e_lnT, e_cp, e_cvi, e_ex20, e_ex21, e_ex30, e_ex31, e_ex32, e_add, e_sub, e_mul, e_quo, e_rem, e_and, e_or, e_xor, e_shl, e_shr, e_eql, e_neq, e_lss, e_leq, e_gtr, e_geq, e_beq, e_bne, e_peq1, e_peq2, e_pne1, e_pne2, e_zeq1, e_zeq2, e_zne1, e_zne2, e_feq1, e_fne1, e_feq2, e_fne2, e_seq, e_sne, e_ta1, e_ta2, Nat.zero_add, Nat.add_zero, Bool.not_true, Bool.not_false]
    cases little with
    | true =>
      try simp only [e_fd, e_nck, e_pkt, e_pkf, e_gdtt, e_gdtf, e_gdft, e_gdff, e_ift, e_iff, e_not, e_ln, e_lnT, e_cp, e_cvi, e_ex20, e_ex21, e_ex30, e_ex31, e_ex32, e_add, e_sub, e_mul, e_quo, e_rem, e_and, e_or, e_xor, e_shl, e_shr, e_eql, e_neq, e_lss, e_leq, e_gtr, e_geq, e_beq, e_bne, e_peq1, e_peq2, e_pne1, e_pne2, e_zeq1, e_zeq2, e_zne1, e_zne2, e_feq1, e_fne1, e_feq2, e_fne2, e_seq, e_sne, e_ta1, e_ta2, Nat.zero_add, Nat.add_zero, Bool.not_true, Bool.not_false]
      refine LE16_ok h (by omega) fun w1 hk1 => ?_
      try simp only [e_fd, e_nck, e_pkt, e_pkf, e_gdtt, e_gdtf, e_gdft, e_gdff, e_ift, e_iff, e_not, e_ln, e_lnT, e_cp, e_cvi, e_ex20, e_ex21, e_ex30, e_ex31, e_ex32, e_add, e_sub, e_mul, e_quo, e_rem, e_and, e_or, e_xor, e_shl, e_shr, e_eql, e_neq, e_lss, e_leq, e_gtr, e_geq, e_beq, e_bne, e_peq1, e_peq2, e_pne1, e_pne2, e_zeq1, e_zeq2, e_zne1, e_zne2, e_feq1, e_fne1, e_feq2, e_fne2, e_seq, e_sne, e_ta1, e_ta2, Nat.zero_add, Nat.add_zero, Bool.not_true, Bool.not_false]
      rw [wrapu64, show le2n xs % 18446744073709551616 = le2n xs by unfold le2n; omega]
      exact hK w1 hk1
    | false =>
      simp only [show ((2 : Int) == 2) = true from rfl, e_fd, e_nck, e_pkt, e_pkf, e_gdtt, e_gdtf, e_gdft, e_gdff, e_ift, e_iff, e_not, e_ln, e_lnT, e_cp, e_cvi, e_ex20, e_ex21, e_ex30, e_ex31, e_ex32, e_add, e_sub, e_mul, e_quo, e_rem, e_and, e_or, e_xor, e_shl, e_shr, e_eql, e_neq, e_lss, e_leq, e_gtr, e_geq, e_beq, e_bne, e_peq1, e_peq2, e_pne1, e_pne2, e_zeq1, e_zeq2, e_zne1, e_zne2, e_feq1, e_fne1, e_feq2, e_fne2, e_seq, e_sne, e_ta1, e_ta2, Nat.zero_add, Nat.add_zero, Bool.not_true, Bool.not_false]
      refine BE16_ok h (by omega) fun w1 hk1 => ?_
      try simp only [e_fd, e_nck, e_pkt, e_pkf, e_gdtt, e_gdtf, e_gdft, e_gdff, e_ift, e_iff, e_not, e_ln, e_lnT, e_cp, e_cvi, e_ex20, e_ex21, e_ex30, e_ex31, e_ex32, e_add, e_sub, e_mul, e_quo, e_rem, e_and, e_or, e_xor, e_shl, e_shr, e_eql, e_neq, e_lss, e_leq, e_gtr, e_geq, e_beq, e_bne, e_peq1, e_peq2, e_pne1, e_pne2, e_zeq1, e_zeq2, e_zne1, e_zne2, e_feq1, e_fne1, e_feq2, e_fne2, e_seq, e_sne, e_ta1, e_ta2, Nat.zero_add, Nat.add_zero, Bool.not_true, Bool.not_false]
      rw [wrapu64, show be2 xs % 18446744073709551616 = be2 xs by unfold be2; omega]
      exact hK w1 hk1
  · simp only [show ((4 : Int) == 2) = false from rfl, show ((4 : Int) == 4) = true from rfl, e_fd, e_nck, e_pkt, e_pkf, e_gdtt, e_gdtf, e_gdft, e_gdff, e_ift, e_iff, e_not, e_ln, e_lnT, e_cp, e_cvi, e_ex20, e_ex21, e_ex30, e_ex31, e_ex32, e_add, e_sub, e_mul, e_quo, e_rem, e_and, e_or, e_xor, e_shl, e_shr, e_eql, e_neq, e_lss, e_leq, e_gtr, e_geq, e_beq, e_bne, e_peq1, e_peq2, e_pne1, e_pne2, e_zeq1, e_zeq2, e_zne1, e_zne2, e_feq1, e_fne1, e_feq2, e_fne2, e_seq, e_sne, e_ta1, e_ta2, Nat.zero_add, Nat.add_zero, Bool.not_true, Bool.not_false]
    cases little with
    | true =>
      try simp only [e_fd, e_nck, e_pkt, e_pkf, e_gdtt, e_gdtf, e_gdft, e_gdff, e_ift, e_iff, e_not, e_ln, e_lnT, e_cp, e_cvi, e_ex20, e_ex21, e_ex30, e_ex31, e_ex32, e_add, e_sub, e_mul, e_quo, e_rem, e_and, e_or, e_xor, e_shl, e_shr, e_eql, e_neq, e_lss, e_leq, e_gtr, e_geq, e_beq, e_bne, e_peq1, e_peq2, e_pne1, e_pne2, e_zeq1, e_zeq2, e_zne1, e_zne2, e_feq1, e_fne1, e_feq2, e_fne2, e_seq, e_sne, e_ta1, e_ta2, Nat.zero_add, Nat.add_zero, Bool.not_true, Bool.not_false]
      refine LE32_ok h (by omega) fun w1 hk1 => ?_
      try simp only [e_fd, e_nck, e_pkt, e_pkf, e_gdtt, e_gdtf, e_gdft, e_gdff, e_ift, e_iff, e_not, e_ln, e_lnT, e_cp, e_cvi, e_ex20, e_ex21, e_ex30, e_ex31, e_ex32, e_add, e_sub, e_mul, e_quo, e_rem, e_and, e_or, e_xor, e_shl, e_shr, e_eql, e_neq, e_lss, e_leq, e_gtr, e_geq, e_beq, e_bne, e_peq1, e_peq2, e_pne1, e_pne2, e_zeq1, e_zeq2, e_zne1, e_zne2, e_feq1, e_fne1, e_feq2, e_fne2, e_seq, e_sne, e_ta1, e_ta2, Nat.zero_add, Nat.add_zero, Bool.not_true, Bool.not_false]
      rw [wrapu64, show le4 xs % 18446744073709551616 = le4 xs by unfold le4; omega]
      exact hK w1 hk1
    | false =>
      simp only [show ((4 : Int) == 4) = true from rfl, e_fd, e_nck, e_pkt, e_pkf, e_gdtt, e_gdtf, e_gdft, e_gdff, e_ift, e_iff, e_not, e_ln, e_lnT, e_cp, e_cvi, e_ex20, e_ex21, e_ex30, e_ex31, e_ex32, e_add, e_sub, e_mul, e_quo, e_rem, e_and, e_or, e_xor, e_shl, e_shr, e_eql, e_neq, e_lss, e_leq, e_gtr, e_geq, e_beq, e_bne, e_peq1, e_peq2, e_pne1, e_pne2, e_zeq1, e_zeq2, e_zne1, e_zne2, e_feq1, e_fne1, e_feq2, e_fne2, e_seq, e_sne, e_ta1, e_ta2, Nat.zero_add, Nat.add_zero, Bool.not_true, Bool.not_false]
      refine BE32_ok h (by omega) fun w1 hk1 => ?_
      try simp only [e_fd, e_nck, e_pkt, e_pkf, e_gdtt, e_gdtf, e_gdft, e_gdff, e_ift, e_iff, e_not, e_ln, e_lnT, e_cp, e_cvi, e_ex20, e_ex21, e_ex30, e_ex31, e_ex32, e_add, e_sub, e_mul, e_quo, e_rem, e_and, e_or, e_xor, e_shl, e_shr, e_eql, e_neq, e_lss, e_leq, e_gtr, e_geq, e_beq, e_bne, e_peq1, e_peq2, e_pne1, e_pne2, e_zeq1, e_zeq2, e_zne1, e_zne2, e_feq1, e_fne1, e_feq2, e_fne2, e_seq, e_sne, e_ta1, e_ta2, Nat.zero_add, Nat.add_zero, Bool.not_true, Bool.not_false]
      rw [wrapu64, show be4 xs % 18446744073709551616 = be4 xs by unfold be4; omega]
      exact hK w1 hk1
  · simp only [show ((8 : Int) == 2) = false from rfl, show ((8 : Int) == 4) = false from rfl, e_fd, e_nck, e_pkt, e_pkf, e_gdtt, e_gdtf, e_gdft, e_gdff, e_ift, e_iff, e_not, e_ln, e_lnT, e_cp, e_cvi, e_ex20, e_ex21, e_ex30, e_ex31, e_ex32, e_add, e_sub, e_mul, e_quo, e_rem, e_and, e_or, e_xor, e_shl, e_shr, e_eql, e_neq, e_lss, e_leq, e_gtr, e_geq, e_beq, e_bne, e_peq1, e_peq2, e_pne1, e_pne2, e_zeq1, e_zeq2, e_zne1, e_zne2, e_feq1, e_fne1, e_feq2, e_fne2, e_seq, e_sne, e_ta1, e_ta2, Nat.zero_add, Nat.add_zero, Bool.not_true, Bool.not_false]
    cases little with
    | true =>
      try simp only [e_fd, e_nck, e_pkt, e_pkf, e_gdtt, e_gdtf, e_gdft, e_gdff, e_ift, e_iff, e_not, e_ln, e_lnT, e_cp, e_cvi, e_ex20, e_ex21, e_ex30, e_ex31, e_ex32, e_add, e_sub, e_mul, e_quo, e_rem, e_and, e_or, e_xor, e_shl, e_shr, e_eql, e_neq, e_lss, e_leq, e_gtr, e_geq, e_beq, e_bne, e_peq1, e_peq2, e_pne1, e_pne2, e_zeq1, e_zeq2, e_zne1, e_zne2, e_feq1, e_fne1, e_feq2, e_fne2, e_seq, e_sne, e_ta1, e_ta2, Nat.zero_add, Nat.add_zero, Bool.not_true, Bool.not_false]
      exact LE64_ok h (by omega) hK
    | false =>
      try simp only [e_fd, e_nck, e_pkt, e_pkf, e_gdtt, e_gdtf, e_gdft, e_gdff, e_ift, e_iff, e_not, e_ln, e_lnT, e_cp, e_cvi, e_ex20, e_ex21, e_ex30, e_ex31, e_ex32, e_add, e_sub, e_mul, e_quo, e_rem, e_and, e_or, e_xor, e_shl, e_shr, e_eql, e_neq, e_lss, e_leq, e_gtr, e_geq, e_beq, e_bne, e_peq1, e_peq2, e_pne1, e_pne2, e_zeq1, e_zeq2, e_zne1, e_zne2, e_feq1, e_fne1, e_feq2, e_fne2, e_seq, e_sne, e_ta1, e_ta2, Nat.zero_add, Nat.add_zero, Bool.not_true, Bool.not_false]
      exact BE64_ok h (by omega) hK
end
end Go.Proofs.Qxb6500898a
