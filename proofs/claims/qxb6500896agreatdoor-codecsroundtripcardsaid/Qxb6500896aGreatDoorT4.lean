import Derived.Test.Qxb6500896aGreatDoorT3
namespace Go.Proofs.Qxb6500896aGreatDoor
open Go.Sh Go.RowKit
set_option linter.unusedVariables false
set_option linter.unusedSimpArgs false

section
variable {w w' w0 : World} {K : Value → World → Prop} {op : Int} {k : IntKind} {a b : Int}
theorem sw_c {X A : World → Prop} (h1 : (a == b) = true → X w) (h2 : (a == b) = false → A w) : boI .eql (.int k a) (.int k b) (fun t w => ifb t (X w) (A w)) w := by
  cases h : (a == b) with
  | true => exact sw_yes (A := fun _ w => X w) (B := fun _ w => A w) h (h1 h)
  | false => exact sw_no (A := fun _ w => X w) (B := fun _ w => A w) h (h2 h)
set_option maxHeartbeats 1000000 in
/-- the name of a kind of request -/
theorem opName_ok (ho : 0 ≤ op ∧ op ≤ 255) (hK : ∀ w' (s : ByteArray), Kp Emp w w' → 1 ≤ s.size → s.size ≤ 40 → K (.string s) w') : cl Tryz.prog 75 #[U8 op] K w := by
  apply c75
  unfold s75_p1
  iterate 18
    refine sw_c (fun _ => hK w _ (Kp.refl _ _) (by decide) (by decide)) fun _ => ?_
  try simp only [e_fd, e_nck, e_pkt, e_pkf, e_gdtt, e_gdtf, e_gdft, e_gdff, e_ift, e_iff, e_not, e_ln, e_lnT, e_cp, e_cvi, e_ex20, e_ex21, e_ex30, e_ex31, e_ex32, e_add, e_sub, e_mul, e_quo, e_rem, e_and, e_or, e_xor, e_shl, e_shr, e_eql, e_neq, e_lss, e_leq, e_gtr, e_geq, e_beq, e_bne, e_peq1, e_peq2, e_pne1, e_pne2, e_zeq1, e_zeq2, e_zne1, e_zne2, e_feq1, e_fne1, e_feq2, e_fne2, e_seq, e_sne, e_ta1, e_ta2, Nat.zero_add, Nat.add_zero, Bool.not_true, Bool.not_false]
  rw [wrap64_id (by omega) (by omega)]
  refine decimal_ok ⟨by omega, by omega⟩ fun w1 d hk1 hd => ?_
  have e1 : (⟨#[111, 112, 99, 111, 100, 101, 32]⟩ : ByteArray).size = 7 := rfl
  refine cat_r (by omega) fun z hz => ?_
  exact hK w1 z hk1 (by omega) (by omega)
end
end Go.Proofs.Qxb6500896aGreatDoor
