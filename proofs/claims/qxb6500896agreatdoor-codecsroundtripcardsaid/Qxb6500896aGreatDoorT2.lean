import Derived.Test.Qxb6500896aGreatDoorT1
namespace Go.Proofs.Qxb6500896aGreatDoor
open Go.Sh Go.RowKit
set_option linter.unusedVariables false
set_option linter.unusedSimpArgs false

section
variable {w w' w0 : World} {K : Value → World → Prop} {v : Value} {ob : Option Nat} {xs : List UInt8} {s : ByteArray} {t lo n kb : Nat} {T : TypeId} {l : List Value} {xr : List (Nat × TypeId × List Value)}
theorem uC_get (xs : List UInt8) (junk : List Value) {j : Nat} (hj : j < xs.length) : (rows uC xs ++ junk)[j]? = some (u8v xs[j]) := by
  rw [List.getElem?_append_left (by rw [rows_length uC_len]; omega), uC_rows, List.getElem?_map, List.getElem?_eq_getElem hj]
  rfl
/-- the line is taken as a string -/
theorem string_ok (h : Tx w0 w t lo n kb T l xr) (hlo : 1 ≤ lo) (hK : ∀ s : ByteArray, 1 ≤ s.size → s.size ≤ n → K (.string s) w) : cl Tryz.prog 93 #[P t 0] K w := by
  obtain ⟨ob, v, xs, r, sl, hx, hb⟩ := h.ex
  apply c93
  unfold s93_p1
  try simp only [e_fd, e_nck, e_pkt, e_pkf, e_gdtt, e_gdtf, e_gdft, e_gdff, e_ift, e_iff, e_not, e_ln, e_lnT, e_cp, e_cvi, e_ex20, e_ex21, e_ex30, e_ex31, e_ex32, e_add, e_sub, e_mul, e_quo, e_rem, e_and, e_or, e_xor, e_shl, e_shr, e_eql, e_neq, e_lss, e_leq, e_gtr, e_geq, e_beq, e_bne, e_peq1, e_peq2, e_pne1, e_pne2, e_zeq1, e_zeq2, e_zne1, e_zne2, e_feq1, e_fne1, e_feq2, e_fne2, e_seq, e_sne, e_ta1, e_ta2, Nat.zero_add, Nat.add_zero, Bool.not_true, Bool.not_false]
  refine ld1_r (v := v) r rfl ?_
  cases ob with
  | none =>
    obtain ⟨_, rfl⟩ := sl
    exact absurd hx.1 (by simp; omega)
  | some b =>
    obtain ⟨cap, junk, rfl, h2, h3, h4⟩ := sl
    refine conv_r xs (fun j hj => ?_) cap (hK _ ?_ ?_)
    · rw [Nat.zero_add]
      rw [h4.cell]
      exact uC_get xs junk hj
    · show 1 ≤ xs.toArray.size
      simp; omega
    · show xs.toArray.size ≤ n
      simp; omega
end
end Go.Proofs.Qxb6500896aGreatDoor
