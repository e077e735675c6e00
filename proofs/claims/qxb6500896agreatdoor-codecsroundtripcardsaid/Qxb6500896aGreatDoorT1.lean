import Derived.Test.Qxb6500896aGreatDoorK60
import Derived.Test.Qxb6500896aGreatDoorShTxt
import Derived.Test.Qxb6500896aGreatDoorGt
namespace Go.Proofs.Qxb6500896aGreatDoor
open Go.Sh Go.RowKit
set_option linter.unusedVariables false
set_option linter.unusedSimpArgs false

/-! ### lines of text -/
set_option maxRecDepth 100000 in
theorem iU8 : ((Tryz.prog.info? 5).any fun i => decide (i.size = 1) && decide (i.bytes = 1) && (i.zero).any fun z => decide (z.cells.toList.length = 1)) = true := by kernel_rfl
theorem opt_any {α : Type} {o : Option α} {p : α → Bool} (h : o.any p = true) : ∃ a, o = some a ∧ p a = true := by
  cases o with
  | none => cases h
  | some a => exact ⟨a, rfl, h⟩
theorem opt_z {o : Option TypeInfo} (h : (o.any fun i => decide (i.size = 1) && decide (i.bytes = 1) && (i.zero).any fun z => decide (z.cells.toList.length = 1)) = true) : ∃ i z, o = some i ∧ i.zero = some z ∧ z.cells.toList.length = 1 ∧ i.size = 1 ∧ i.bytes = 1 := by
  obtain ⟨i, hi, hp⟩ := opt_any h
  simp only [Bool.and_eq_true, decide_eq_true_eq] at hp
  obtain ⟨⟨h1, h2⟩, hp3⟩ := hp
  obtain ⟨z, hz, h3⟩ := opt_any hp3
  exact ⟨i, z, hi, hz, of_decide_eq_true h3, h1, h2⟩
theorem iU8e : ∃ i z, Tryz.prog.info? 5 = some i ∧ i.zero = some z ∧ z.cells.toList.length = 1 ∧ i.size = 1 ∧ i.bytes = 1 := opt_z iU8
section
variable {w w' w0 : World} {K : Value → World → Prop} {v : Value} {ob : Option Nat} {xs : List UInt8} {s : ByteArray} {t lo n kb : Nat} {T : TypeId} {l : List Value} {xr : List (Nat × TypeId × List Value)}
/-- a string is appended to octets -/
theorem appS_ok (h : Sl uC 1 w 5 ob v xs) (hl : xs.length + s.size ≤ 100000000000)
    (hK : ∀ w' v' ob', Sl uC 1 w' 5 ob' v' (xs ++ s.data.toList) → Kp (fun b => ob = some b) w w' → (ob' = ob ∨ ∃ b, ob' = some b ∧ w.heap.size ≤ b) → K v' w') : rs Tryz.prog (Builtin.append_ #[35, 9] 35 #[v, .string s]) K w := by
  exact Exists.elim iU8e fun i h' => Exists.elim h' fun z h'' => aps_rs uSB uStr h''.1 h''.2.1 (h''.2.2.1.trans h''.2.2.2.1.symm) (Sl.appS h''.2.2.1 h (by rw [h''.2.2.2.2]; omega) (by omega) hK)
/-- a line of text that grows, all of it made after w0; kb: a block beside it -/
structure Tx (w0 w : World) (t lo n kb : Nat) (T : TypeId) (l : List Value) (xr : List (Nat × TypeId × List Value)) : Prop where
  ex : ∃ ob v xs, Row w t 169 [v] ∧ Sl uC 1 w 5 ob v xs ∧ (lo ≤ xs.length ∧ xs.length ≤ n) ∧ ∀ b, ob = some b → w0.heap.size ≤ b
  t0 : w0.heap.size ≤ t
  k : Kp Emp w0 w
  kr : Row w kb T l
  kt : T ≠ 169 ∧ T ≠ 5
  kx : ∀ x ∈ xr, Row w x.1 x.2.1 x.2.2 ∧ x.2.1 ≠ 169 ∧ x.2.1 ≠ 5
theorem Tx.emp (h : Tx w0 w t lo n kb T l xr) (hk : Kp Emp w w') : Tx w0 w' t lo n kb T l xr := by
  obtain ⟨ob, v, xs, r, sl, hx, hb⟩ := h.ex
  exact ⟨⟨ob, v, xs, hk.row' r, sl.kp' hk, hx, hb⟩, h.t0, h.k.trans hk, hk.row' h.kr, h.kt, fun x hx => ⟨hk.row' (h.kx x hx).1, (h.kx x hx).2⟩⟩
theorem Tx.low {lo' : Nat} (h : Tx w0 w t lo n kb T l xr) (hn : lo' ≤ lo) : Tx w0 w t lo' n kb T l xr := by
  obtain ⟨ob, v, xs, r, sl, hx, hb⟩ := h.ex
  exact ⟨⟨ob, v, xs, r, sl, ⟨by omega, hx.2⟩, hb⟩, h.t0, h.k, h.kr, h.kt, h.kx⟩
theorem Tx.mono {n' : Nat} (h : Tx w0 w t lo n kb T l xr) (hn : n ≤ n') : Tx w0 w t lo n' kb T l xr := by
  obtain ⟨ob, v, xs, r, sl, hx, hb⟩ := h.ex
  exact ⟨⟨ob, v, xs, r, sl, ⟨hx.1, by omega⟩, hb⟩, h.t0, h.k, h.kr, h.kt, h.kx⟩
theorem word_ok (h : Tx w0 w t lo n kb T l xr) (hn : n + s.size + 1 ≤ 10000000000) (hK : ∀ w', Tx w0 w' t (lo + s.size) (n + s.size + 1) kb T l xr → K (P t 0) w') : cl Tryz.prog 91 #[P t 0, .string s] K w := by
  obtain ⟨ob, v, xs, r, sl, hx, hb⟩ := h.ex
  have t0 := h.t0
  have k0 := h.k
  have kr := h.kr
  have kt := h.kt
  have kx := h.kx
  have sz0 := k0.size
  apply c91
  unfold s91_p2
  have fin : ∀ {w1 : World} {ob1 : Option Nat} {v1 : Value} {xs1 : List UInt8}, Row w1 t 169 [v1] → Sl uC 1 w1 5 ob1 v1 xs1 → (lo ≤ xs1.length ∧ xs1.length ≤ n + 1) → (∀ b, ob1 = some b → w0.heap.size ≤ b) → Kp Emp w0 w1 → Row w1 kb T l → (∀ x ∈ xr, Row w1 x.1 x.2.1 x.2.2) → s91_p1 K (P t 0) (.string s) w1 := by
    intro w1 ob1 v1 xs1 r1 sl1 hx1 hb1 k1 kr1 kx1
    unfold s91_p1
    try simp only [e_fd, e_nck, e_pkt, e_pkf, e_gdtt, e_gdtf, e_gdft, e_gdff, e_ift, e_iff, e_not, e_ln, e_lnT, e_cp, e_cvi, e_ex20, e_ex21, e_ex30, e_ex31, e_ex32, e_add, e_sub, e_mul, e_quo, e_rem, e_and, e_or, e_xor, e_shl, e_shr, e_eql, e_neq, e_lss, e_leq, e_gtr, e_geq, e_beq, e_bne, e_peq1, e_peq2, e_pne1, e_pne2, e_zeq1, e_zeq2, e_zne1, e_zne2, e_feq1, e_fne1, e_feq2, e_fne2, e_seq, e_sne, e_ta1, e_ta2, Nat.zero_add, Nat.add_zero, Bool.not_true, Bool.not_false]
    refine ld1_r (v := v1) r1 rfl ?_
    refine appS_ok sl1 (by omega) fun w2 v2 ob2 sl2 hk2 ho2 => ?_
    have ne : ob1 ≠ some t := sl1.ne r1 (by decide)
    have r2 := hk2.row r1 fun q => ne q
    have hv2 : scal v2 = true := sl_scal sl2
    refine st1_r r2 (show 0 < 1 by decide) hv2 fun w3 r3 hk3 hz3 => ?_
    have ne2 : ob2 ≠ some t := sl2.ne r2 (by decide)
    have sz1 := k1.size
    refine hK w3 ⟨⟨ob2, v2, _, r3, sl2.kp hk3 fun b q (q2 : b = t) => ne2 (by rw [q, q2]), ?_, fun b q => ?_⟩, t0, (k1.then hk2 fun b hb q => by have := hb1 b q; omega).then hk3 fun b hb (q : b = t) => by omega, ?_, kt, fun x hx => ⟨?_, (kx x hx).2⟩⟩
    · rw [List.length_append]
      have : s.data.toList.length = s.size := by simp
      exact ⟨by omega, by omega⟩
    · rcases ho2 with q2 | ⟨c, q2, hc⟩
      · exact hb1 b (by rw [← q2]; exact q)
      · rw [q2] at q; cases q; omega
    · refine hk3.row (hk2.row kr1 fun q => ?_) fun (q : kb = t) => ?_
      · obtain ⟨l', hl'⟩ := sl1.row q
        exact row_ne kr1 hl' kt.2 rfl
      · subst q
        exact row_ne kr1 r1 kt.1 rfl
    · refine hk3.row (hk2.row (kx1 x hx) fun q => ?_) fun (q : x.1 = t) => ?_
      · obtain ⟨l', hl'⟩ := sl1.row q
        exact row_ne (kx1 x hx) hl' (kx x hx).2.2 rfl
      · exact row_ne (kx1 x hx) r1 (kx x hx).2.1 q
  try simp only [e_fd, e_nck, e_pkt, e_pkf, e_gdtt, e_gdtf, e_gdft, e_gdff, e_ift, e_iff, e_not, e_ln, e_lnT, e_cp, e_cvi, e_ex20, e_ex21, e_ex30, e_ex31, e_ex32, e_add, e_sub, e_mul, e_quo, e_rem, e_and, e_or, e_xor, e_shl, e_shr, e_eql, e_neq, e_lss, e_leq, e_gtr, e_geq, e_beq, e_bne, e_peq1, e_peq2, e_pne1, e_pne2, e_zeq1, e_zeq2, e_zne1, e_zne2, e_feq1, e_fne1, e_feq2, e_fne2, e_seq, e_sne, e_ta1, e_ta2, Nat.zero_add, Nat.add_zero, Bool.not_true, Bool.not_false]
  refine ld1_r (v := v) r rfl ?_
  refine sl.ln ?_
  try simp only [e_fd, e_nck, e_pkt, e_pkf, e_gdtt, e_gdtf, e_gdft, e_gdff, e_ift, e_iff, e_not, e_ln, e_lnT, e_cp, e_cvi, e_ex20, e_ex21, e_ex30, e_ex31, e_ex32, e_add, e_sub, e_mul, e_quo, e_rem, e_and, e_or, e_xor, e_shl, e_shr, e_eql, e_neq, e_lss, e_leq, e_gtr, e_geq, e_beq, e_bne, e_peq1, e_peq2, e_pne1, e_pne2, e_zeq1, e_zeq2, e_zne1, e_zne2, e_feq1, e_fne1, e_feq2, e_fne2, e_seq, e_sne, e_ta1, e_ta2, Nat.zero_add, Nat.add_zero, Bool.not_true, Bool.not_false]
  by_cases h0 : (0 : Int) < ((xs.length : Nat) : Int)
  · simp only [h0, decide_true, e_fd, e_nck, e_pkt, e_pkf, e_gdtt, e_gdtf, e_gdft, e_gdff, e_ift, e_iff, e_not, e_ln, e_lnT, e_cp, e_cvi, e_ex20, e_ex21, e_ex30, e_ex31, e_ex32, e_add, e_sub, e_mul, e_quo, e_rem, e_and, e_or, e_xor, e_shl, e_shr, e_eql, e_neq, e_lss, e_leq, e_gtr, e_geq, e_beq, e_bne, e_peq1, e_peq2, e_pne1, e_pne2, e_zeq1, e_zeq2, e_zne1, e_zne2, e_feq1, e_fne1, e_feq2, e_fne2, e_seq, e_sne, e_ta1, e_ta2, Nat.zero_add, Nat.add_zero, Bool.not_true, Bool.not_false]
    refine ld1_r (v := v) r rfl ?_
    refine sl.app uC_len rfl (32 : UInt8) rfl (by omega) (by omega) rfl fun w1 v1 ob1 sl1 hk1 ho1 => ?_
    have ne : ob ≠ some t := sl.ne r (by decide)
    have r1 := hk1.row r fun q => ne q
    have hv1 : scal v1 = true := sl_scal sl1
    refine st1_r r1 (show 0 < 1 by decide) hv1 fun w2 r2 hk2 hz2 => ?_
    have ne1 : ob1 ≠ some t := sl1.ne r1 (by decide)
    refine fin r2 (sl1.kp hk2 fun b q (q2 : b = t) => ne1 (by rw [q, q2])) (by rw [List.length_append, List.length_singleton]; exact ⟨by omega, by omega⟩) (fun b q => ?_) ((k0.then hk1 fun b hb' q => by have := hb b q; omega).then hk2 fun b hb (q : b = t) => by omega) ?_ fun x hx => ?_
    · rcases ho1 with q2 | ⟨c, q2, hc⟩
      · exact hb b (by rw [← q2]; exact q)
      · rw [q2] at q; cases q; omega
    · refine hk2.row (hk1.row kr fun q => ?_) fun (q : kb = t) => ?_
      · obtain ⟨l', hl'⟩ := sl.row q
        exact row_ne kr hl' kt.2 rfl
      · subst q
        exact row_ne kr r kt.1 rfl
    · refine hk2.row (hk1.row (kx x hx).1 fun q => ?_) fun (q : x.1 = t) => ?_
      · obtain ⟨l', hl'⟩ := sl.row q
        exact row_ne (kx x hx).1 hl' (kx x hx).2.2 rfl
      · exact row_ne (kx x hx).1 r (kx x hx).2.1 q
  · simp only [h0, decide_false, e_fd, e_nck, e_pkt, e_pkf, e_gdtt, e_gdtf, e_gdft, e_gdff, e_ift, e_iff, e_not, e_ln, e_lnT, e_cp, e_cvi, e_ex20, e_ex21, e_ex30, e_ex31, e_ex32, e_add, e_sub, e_mul, e_quo, e_rem, e_and, e_or, e_xor, e_shl, e_shr, e_eql, e_neq, e_lss, e_leq, e_gtr, e_geq, e_beq, e_bne, e_peq1, e_peq2, e_pne1, e_pne2, e_zeq1, e_zeq2, e_zne1, e_zne2, e_feq1, e_fne1, e_feq2, e_fne2, e_seq, e_sne, e_ta1, e_ta2, Nat.zero_add, Nat.add_zero, Bool.not_true, Bool.not_false]
    exact fin r sl ⟨by omega, by omega⟩ hb k0 kr fun x hx => (kx x hx).1
theorem field_ok {nm : ByteArray} {x : Int} (h : Tx w0 w t lo n kb T l xr) (hn : n + nm.size + 22 ≤ 10000000000) (hx : -9223372036854775808 ≤ x ∧ x ≤ 9223372036854775807) (hK : ∀ w', Tx w0 w' t lo (n + nm.size + 22) kb T l xr → K (P t 0) w') : cl Tryz.prog 92 #[P t 0, .string nm, I x] K w := by
  apply c92
  unfold s92_p1
  have e1 : (⟨#[61]⟩ : ByteArray).size = 1 := rfl
  refine ⟨by rw [e1]; omega, ?_⟩
  refine decimal_ok hx fun w1 d hk1 hd => ?_
  have sa : (nm ++ (⟨#[61]⟩ : ByteArray)).size = nm.size + 1 := by rw [ByteArray.size_append, e1]
  refine ⟨by rw [sa]; omega, ?_⟩
  have sb : (nm ++ (⟨#[61]⟩ : ByteArray) ++ d).size = nm.size + 1 + d.size := by rw [ByteArray.size_append, sa]
  refine word_ok (h.emp hk1) (by rw [sb]; omega) fun w2 h2 => ?_
  exact hK w2 ((h2.mono (by rw [sb]; omega)).low (by omega))
end
end Go.Proofs.Qxb6500896aGreatDoor
