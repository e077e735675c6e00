import Derived.Test.Qxb6500896aGreatDoorR3
namespace Go.Proofs.Qxb6500896aGreatDoor
open Go.Sh Go.RowKit
set_option linter.unusedVariables false
set_option linter.unusedSimpArgs false

section
variable {F G S : Nat → Prop} {w w' w0 w1 : World} {v iv rv wv : Value} {rb qb t2 k : Nat} {s s' : RS} {K : Value → World → Prop} {cs : List Value} {p : Rp} {b : Int}
theorem dr_1 (h : Dro F w0 w rb qb t2 s 1) (hK : DK K w0 (decRB 1 s)) : s14_p40 K (P t2 0) (P rb 0) (P qb 0) (U8 1) w := by
  unfold s14_p40
  refine bo_yes rfl ?_
  refine sw_t ?_
  unfold s14_p39
  refine sw_t ?_
  exact dr_p2 h hK
theorem dr_22 (h : Dro F w0 w rb qb t2 s 22) (hK : DK K w0 (decRB 22 s)) : s14_p40 K (P t2 0) (P rb 0) (P qb 0) (U8 22) w := by
  unfold s14_p40
  refine bo_no rfl ?_
  refine sw_f ?_
  refine bo_yes rfl ?_
  unfold s14_p39
  refine sw_t ?_
  exact dr_p2 h hK
theorem dr_6 (h : Dro F w0 w rb qb t2 s 6) (hK : DK K w0 (decRB 6 s)) : s14_p40 K (P t2 0) (P rb 0) (P qb 0) (U8 6) w := by
  unfold s14_p40
  refine bo_no rfl ?_
  refine sw_f ?_
  refine bo_no rfl ?_
  unfold s14_p39
  refine sw_f ?_
  unfold s14_p38
  refine bo_yes rfl ?_
  unfold s14_p37
  refine sw_t ?_
  exact dr_p3 h hK
theorem dr_2 (h : Dro F w0 w rb qb t2 s 2) (hK : DK K w0 (decRB 2 s)) : s14_p40 K (P t2 0) (P rb 0) (P qb 0) (U8 2) w := by
  unfold s14_p40
  refine bo_no rfl ?_
  refine sw_f ?_
  refine bo_no rfl ?_
  unfold s14_p39
  refine sw_f ?_
  unfold s14_p38
  refine bo_no rfl ?_
  unfold s14_p37
  refine sw_f ?_
  unfold s14_p36
  refine bo_yes rfl ?_
  refine sw_t ?_
  unfold s14_p35
  refine sw_t ?_
  exact dr_p4 h hK
theorem dr_3 (h : Dro F w0 w rb qb t2 s 3) (hK : DK K w0 (decRB 3 s)) : s14_p40 K (P t2 0) (P rb 0) (P qb 0) (U8 3) w := by
  unfold s14_p40
  refine bo_no rfl ?_
  refine sw_f ?_
  refine bo_no rfl ?_
  unfold s14_p39
  refine sw_f ?_
  unfold s14_p38
  refine bo_no rfl ?_
  unfold s14_p37
  refine sw_f ?_
  unfold s14_p36
  refine bo_no rfl ?_
  refine sw_f ?_
  refine bo_yes rfl ?_
  refine sw_t ?_
  unfold s14_p35
  refine sw_t ?_
  exact dr_p4 h hK
theorem dr_4 (h : Dro F w0 w rb qb t2 s 4) (hK : DK K w0 (decRB 4 s)) : s14_p40 K (P t2 0) (P rb 0) (P qb 0) (U8 4) w := by
  unfold s14_p40
  refine bo_no rfl ?_
  refine sw_f ?_
  refine bo_no rfl ?_
  unfold s14_p39
  refine sw_f ?_
  unfold s14_p38
  refine bo_no rfl ?_
  unfold s14_p37
  refine sw_f ?_
  unfold s14_p36
  refine bo_no rfl ?_
  refine sw_f ?_
  refine bo_no rfl ?_
  refine sw_f ?_
  refine bo_yes rfl ?_
  refine sw_t ?_
  unfold s14_p35
  refine sw_t ?_
  exact dr_p4 h hK
theorem dr_5 (h : Dro F w0 w rb qb t2 s 5) (hK : DK K w0 (decRB 5 s)) : s14_p40 K (P t2 0) (P rb 0) (P qb 0) (U8 5) w := by
  unfold s14_p40
  refine bo_no rfl ?_
  refine sw_f ?_
  refine bo_no rfl ?_
  unfold s14_p39
  refine sw_f ?_
  unfold s14_p38
  refine bo_no rfl ?_
  unfold s14_p37
  refine sw_f ?_
  unfold s14_p36
  refine bo_no rfl ?_
  refine sw_f ?_
  refine bo_no rfl ?_
  refine sw_f ?_
  refine bo_no rfl ?_
  refine sw_f ?_
  refine bo_yes rfl ?_
  refine sw_t ?_
  unfold s14_p35
  refine sw_t ?_
  exact dr_p4 h hK
theorem dr_7 (h : Dro F w0 w rb qb t2 s 7) (hK : DK K w0 (decRB 7 s)) : s14_p40 K (P t2 0) (P rb 0) (P qb 0) (U8 7) w := by
  unfold s14_p40
  refine bo_no rfl ?_
  refine sw_f ?_
  refine bo_no rfl ?_
  unfold s14_p39
  refine sw_f ?_
  unfold s14_p38
  refine bo_no rfl ?_
  unfold s14_p37
  refine sw_f ?_
  unfold s14_p36
  refine bo_no rfl ?_
  refine sw_f ?_
  refine bo_no rfl ?_
  refine sw_f ?_
  refine bo_no rfl ?_
  refine sw_f ?_
  refine bo_no rfl ?_
  refine sw_f ?_
  refine bo_yes rfl ?_
  refine sw_t ?_
  unfold s14_p35
  refine sw_t ?_
  exact dr_p4 h hK
theorem dr_8 (h : Dro F w0 w rb qb t2 s 8) (hK : DK K w0 (decRB 8 s)) : s14_p40 K (P t2 0) (P rb 0) (P qb 0) (U8 8) w := by
  unfold s14_p40
  refine bo_no rfl ?_
  refine sw_f ?_
  refine bo_no rfl ?_
  unfold s14_p39
  refine sw_f ?_
  unfold s14_p38
  refine bo_no rfl ?_
  unfold s14_p37
  refine sw_f ?_
  unfold s14_p36
  refine bo_no rfl ?_
  refine sw_f ?_
  refine bo_no rfl ?_
  refine sw_f ?_
  refine bo_no rfl ?_
  refine sw_f ?_
  refine bo_no rfl ?_
  refine sw_f ?_
  refine bo_no rfl ?_
  refine sw_f ?_
  refine bo_yes rfl ?_
  unfold s14_p35
  refine sw_t ?_
  exact dr_p4 h hK
theorem dr_9 (h : Dro F w0 w rb qb t2 s 9) (hK : DK K w0 (decRB 9 s)) : s14_p40 K (P t2 0) (P rb 0) (P qb 0) (U8 9) w := by
  unfold s14_p40
  refine bo_no rfl ?_
  refine sw_f ?_
  refine bo_no rfl ?_
  unfold s14_p39
  refine sw_f ?_
  unfold s14_p38
  refine bo_no rfl ?_
  unfold s14_p37
  refine sw_f ?_
  unfold s14_p36
  refine bo_no rfl ?_
  refine sw_f ?_
  refine bo_no rfl ?_
  refine sw_f ?_
  refine bo_no rfl ?_
  refine sw_f ?_
  refine bo_no rfl ?_
  refine sw_f ?_
  refine bo_no rfl ?_
  refine sw_f ?_
  refine bo_no rfl ?_
  unfold s14_p35
  refine sw_f ?_
  unfold s14_p34
  refine bo_yes rfl ?_
  unfold s14_p33
  refine sw_t ?_
  exact dr_p5 h hK
theorem dr_16 (h : Dro F w0 w rb qb t2 s 16) (hK : DK K w0 (decRB 16 s)) : s14_p40 K (P t2 0) (P rb 0) (P qb 0) (U8 16) w := by
  unfold s14_p40
  refine bo_no rfl ?_
  refine sw_f ?_
  refine bo_no rfl ?_
  unfold s14_p39
  refine sw_f ?_
  unfold s14_p38
  refine bo_no rfl ?_
  unfold s14_p37
  refine sw_f ?_
  unfold s14_p36
  refine bo_no rfl ?_
  refine sw_f ?_
  refine bo_no rfl ?_
  refine sw_f ?_
  refine bo_no rfl ?_
  refine sw_f ?_
  refine bo_no rfl ?_
  refine sw_f ?_
  refine bo_no rfl ?_
  refine sw_f ?_
  refine bo_no rfl ?_
  unfold s14_p35
  refine sw_f ?_
  unfold s14_p34
  refine bo_no rfl ?_
  unfold s14_p33
  refine sw_f ?_
  unfold s14_p32
  refine bo_yes rfl ?_
  unfold s14_p31
  refine sw_t ?_
  exact dr_p6 h hK
theorem dr_17 (h : Dro F w0 w rb qb t2 s 17) (hK : DK K w0 (decRB 17 s)) : s14_p40 K (P t2 0) (P rb 0) (P qb 0) (U8 17) w := by
  unfold s14_p40
  refine bo_no rfl ?_
  refine sw_f ?_
  refine bo_no rfl ?_
  unfold s14_p39
  refine sw_f ?_
  unfold s14_p38
  refine bo_no rfl ?_
  unfold s14_p37
  refine sw_f ?_
  unfold s14_p36
  refine bo_no rfl ?_
  refine sw_f ?_
  refine bo_no rfl ?_
  refine sw_f ?_
  refine bo_no rfl ?_
  refine sw_f ?_
  refine bo_no rfl ?_
  refine sw_f ?_
  refine bo_no rfl ?_
  refine sw_f ?_
  refine bo_no rfl ?_
  unfold s14_p35
  refine sw_f ?_
  unfold s14_p34
  refine bo_no rfl ?_
  unfold s14_p33
  refine sw_f ?_
  unfold s14_p32
  refine bo_no rfl ?_
  unfold s14_p31
  refine sw_f ?_
  unfold s14_p30
  refine bo_yes rfl ?_
  unfold s14_p29
  refine sw_t ?_
  exact dr_p7 h hK
theorem dr_18 (h : Dro F w0 w rb qb t2 s 18) (hK : DK K w0 (decRB 18 s)) : s14_p40 K (P t2 0) (P rb 0) (P qb 0) (U8 18) w := by
  unfold s14_p40
  refine bo_no rfl ?_
  refine sw_f ?_
  refine bo_no rfl ?_
  unfold s14_p39
  refine sw_f ?_
  unfold s14_p38
  refine bo_no rfl ?_
  unfold s14_p37
  refine sw_f ?_
  unfold s14_p36
  refine bo_no rfl ?_
  refine sw_f ?_
  refine bo_no rfl ?_
  refine sw_f ?_
  refine bo_no rfl ?_
  refine sw_f ?_
  refine bo_no rfl ?_
  refine sw_f ?_
  refine bo_no rfl ?_
  refine sw_f ?_
  refine bo_no rfl ?_
  unfold s14_p35
  refine sw_f ?_
  unfold s14_p34
  refine bo_no rfl ?_
  unfold s14_p33
  refine sw_f ?_
  unfold s14_p32
  refine bo_no rfl ?_
  unfold s14_p31
  refine sw_f ?_
  unfold s14_p30
  refine bo_no rfl ?_
  unfold s14_p29
  refine sw_f ?_
  unfold s14_p28
  refine bo_yes rfl ?_
  unfold s14_p27
  refine sw_t ?_
  exact dr_p11 h hK
theorem dr_19 (h : Dro F w0 w rb qb t2 s 19) (hK : DK K w0 (decRB 19 s)) : s14_p40 K (P t2 0) (P rb 0) (P qb 0) (U8 19) w := by
  unfold s14_p40
  refine bo_no rfl ?_
  refine sw_f ?_
  refine bo_no rfl ?_
  unfold s14_p39
  refine sw_f ?_
  unfold s14_p38
  refine bo_no rfl ?_
  unfold s14_p37
  refine sw_f ?_
  unfold s14_p36
  refine bo_no rfl ?_
  refine sw_f ?_
  refine bo_no rfl ?_
  refine sw_f ?_
  refine bo_no rfl ?_
  refine sw_f ?_
  refine bo_no rfl ?_
  refine sw_f ?_
  refine bo_no rfl ?_
  refine sw_f ?_
  refine bo_no rfl ?_
  unfold s14_p35
  refine sw_f ?_
  unfold s14_p34
  refine bo_no rfl ?_
  unfold s14_p33
  refine sw_f ?_
  unfold s14_p32
  refine bo_no rfl ?_
  unfold s14_p31
  refine sw_f ?_
  unfold s14_p30
  refine bo_no rfl ?_
  unfold s14_p29
  refine sw_f ?_
  unfold s14_p28
  refine bo_no rfl ?_
  unfold s14_p27
  refine sw_f ?_
  unfold s14_p26
  refine bo_yes rfl ?_
  unfold s14_p25
  refine sw_t ?_
  exact dr_p12 h hK
theorem dr_20 (h : Dro F w0 w rb qb t2 s 20) (hK : DK K w0 (decRB 20 s)) : s14_p40 K (P t2 0) (P rb 0) (P qb 0) (U8 20) w := by
  unfold s14_p40
  refine bo_no rfl ?_
  refine sw_f ?_
  refine bo_no rfl ?_
  unfold s14_p39
  refine sw_f ?_
  unfold s14_p38
  refine bo_no rfl ?_
  unfold s14_p37
  refine sw_f ?_
  unfold s14_p36
  refine bo_no rfl ?_
  refine sw_f ?_
  refine bo_no rfl ?_
  refine sw_f ?_
  refine bo_no rfl ?_
  refine sw_f ?_
  refine bo_no rfl ?_
  refine sw_f ?_
  refine bo_no rfl ?_
  refine sw_f ?_
  refine bo_no rfl ?_
  unfold s14_p35
  refine sw_f ?_
  unfold s14_p34
  refine bo_no rfl ?_
  unfold s14_p33
  refine sw_f ?_
  unfold s14_p32
  refine bo_no rfl ?_
  unfold s14_p31
  refine sw_f ?_
  unfold s14_p30
  refine bo_no rfl ?_
  unfold s14_p29
  refine sw_f ?_
  unfold s14_p28
  refine bo_no rfl ?_
  unfold s14_p27
  refine sw_f ?_
  unfold s14_p26
  refine bo_no rfl ?_
  unfold s14_p25
  refine sw_f ?_
  unfold s14_p24
  refine bo_yes rfl ?_
  unfold s14_p23
  refine sw_t ?_
  exact dr_p13 h hK
theorem dr_21 (h : Dro F w0 w rb qb t2 s 21) (hK : DK K w0 (decRB 21 s)) : s14_p40 K (P t2 0) (P rb 0) (P qb 0) (U8 21) w := by
  unfold s14_p40
  refine bo_no rfl ?_
  refine sw_f ?_
  refine bo_no rfl ?_
  unfold s14_p39
  refine sw_f ?_
  unfold s14_p38
  refine bo_no rfl ?_
  unfold s14_p37
  refine sw_f ?_
  unfold s14_p36
  refine bo_no rfl ?_
  refine sw_f ?_
  refine bo_no rfl ?_
  refine sw_f ?_
  refine bo_no rfl ?_
  refine sw_f ?_
  refine bo_no rfl ?_
  refine sw_f ?_
  refine bo_no rfl ?_
  refine sw_f ?_
  refine bo_no rfl ?_
  unfold s14_p35
  refine sw_f ?_
  unfold s14_p34
  refine bo_no rfl ?_
  unfold s14_p33
  refine sw_f ?_
  unfold s14_p32
  refine bo_no rfl ?_
  unfold s14_p31
  refine sw_f ?_
  unfold s14_p30
  refine bo_no rfl ?_
  unfold s14_p29
  refine sw_f ?_
  unfold s14_p28
  refine bo_no rfl ?_
  unfold s14_p27
  refine sw_f ?_
  unfold s14_p26
  refine bo_no rfl ?_
  unfold s14_p25
  refine sw_f ?_
  unfold s14_p24
  refine bo_no rfl ?_
  unfold s14_p23
  refine sw_f ?_
  unfold s14_p22
  refine bo_yes rfl ?_
  unfold s14_p21
  refine sw_t ?_
  exact dr_p14 h hK
theorem dr_23 (h : Dro F w0 w rb qb t2 s 23) (hK : DK K w0 (decRB 23 s)) : s14_p40 K (P t2 0) (P rb 0) (P qb 0) (U8 23) w := by
  unfold s14_p40
  refine bo_no rfl ?_
  refine sw_f ?_
  refine bo_no rfl ?_
  unfold s14_p39
  refine sw_f ?_
  unfold s14_p38
  refine bo_no rfl ?_
  unfold s14_p37
  refine sw_f ?_
  unfold s14_p36
  refine bo_no rfl ?_
  refine sw_f ?_
  refine bo_no rfl ?_
  refine sw_f ?_
  refine bo_no rfl ?_
  refine sw_f ?_
  refine bo_no rfl ?_
  refine sw_f ?_
  refine bo_no rfl ?_
  refine sw_f ?_
  refine bo_no rfl ?_
  unfold s14_p35
  refine sw_f ?_
  unfold s14_p34
  refine bo_no rfl ?_
  unfold s14_p33
  refine sw_f ?_
  unfold s14_p32
  refine bo_no rfl ?_
  unfold s14_p31
  refine sw_f ?_
  unfold s14_p30
  refine bo_no rfl ?_
  unfold s14_p29
  refine sw_f ?_
  unfold s14_p28
  refine bo_no rfl ?_
  unfold s14_p27
  refine sw_f ?_
  unfold s14_p26
  refine bo_no rfl ?_
  unfold s14_p25
  refine sw_f ?_
  unfold s14_p24
  refine bo_no rfl ?_
  unfold s14_p23
  refine sw_f ?_
  unfold s14_p22
  refine bo_no rfl ?_
  unfold s14_p21
  refine sw_f ?_
  unfold s14_p20
  refine bo_yes rfl ?_
  unfold s14_p19
  refine sw_t ?_
  exact dr_p17 h hK
theorem dr_24 (h : Dro F w0 w rb qb t2 s 24) (hK : DK K w0 (decRB 24 s)) : s14_p40 K (P t2 0) (P rb 0) (P qb 0) (U8 24) w := by
  unfold s14_p40
  refine bo_no rfl ?_
  refine sw_f ?_
  refine bo_no rfl ?_
  unfold s14_p39
  refine sw_f ?_
  unfold s14_p38
  refine bo_no rfl ?_
  unfold s14_p37
  refine sw_f ?_
  unfold s14_p36
  refine bo_no rfl ?_
  refine sw_f ?_
  refine bo_no rfl ?_
  refine sw_f ?_
  refine bo_no rfl ?_
  refine sw_f ?_
  refine bo_no rfl ?_
  refine sw_f ?_
  refine bo_no rfl ?_
  refine sw_f ?_
  refine bo_no rfl ?_
  unfold s14_p35
  refine sw_f ?_
  unfold s14_p34
  refine bo_no rfl ?_
  unfold s14_p33
  refine sw_f ?_
  unfold s14_p32
  refine bo_no rfl ?_
  unfold s14_p31
  refine sw_f ?_
  unfold s14_p30
  refine bo_no rfl ?_
  unfold s14_p29
  refine sw_f ?_
  unfold s14_p28
  refine bo_no rfl ?_
  unfold s14_p27
  refine sw_f ?_
  unfold s14_p26
  refine bo_no rfl ?_
  unfold s14_p25
  refine sw_f ?_
  unfold s14_p24
  refine bo_no rfl ?_
  unfold s14_p23
  refine sw_f ?_
  unfold s14_p22
  refine bo_no rfl ?_
  unfold s14_p21
  refine sw_f ?_
  unfold s14_p20
  refine bo_no rfl ?_
  unfold s14_p19
  refine sw_f ?_
  unfold s14_p18
  refine bo_yes rfl ?_
  refine sw_t ?_
  refine Dr.num (k := 32) h (by decide) fun w1 h1 _ => ?_
  refine Dr.num (k := 4) h1 (by decide) fun w2 h2 _ => ?_
  refine Dr.num (k := 33) h2 (by decide) fun w3 h3 _ => ?_
  exact dr_plain h3 rfl rfl rfl rfl rfl hK
theorem dr_no (hne : b ≠ 1 ∧ b ≠ 22 ∧ b ≠ 6 ∧ b ≠ 2 ∧ b ≠ 3 ∧ b ≠ 4 ∧ b ≠ 5 ∧ b ≠ 7 ∧ b ≠ 8 ∧ b ≠ 9 ∧ b ≠ 16 ∧ b ≠ 17 ∧ b ≠ 18 ∧ b ≠ 19 ∧ b ≠ 20 ∧ b ≠ 21 ∧ b ≠ 23 ∧ b ≠ 24) (h : Dro F w0 w rb qb t2 s b) (hK : DK K w0 (decRB b s)) : s14_p40 K (P t2 0) (P rb 0) (P qb 0) (U8 b) w := by
  have e1 : (b == 1) = false := by rw [beq_eq_false_iff_ne]; omega
  have e22 : (b == 22) = false := by rw [beq_eq_false_iff_ne]; omega
  have e6 : (b == 6) = false := by rw [beq_eq_false_iff_ne]; omega
  have e2 : (b == 2) = false := by rw [beq_eq_false_iff_ne]; omega
  have e3 : (b == 3) = false := by rw [beq_eq_false_iff_ne]; omega
  have e4 : (b == 4) = false := by rw [beq_eq_false_iff_ne]; omega
  have e5 : (b == 5) = false := by rw [beq_eq_false_iff_ne]; omega
  have e7 : (b == 7) = false := by rw [beq_eq_false_iff_ne]; omega
  have e8 : (b == 8) = false := by rw [beq_eq_false_iff_ne]; omega
  have e9 : (b == 9) = false := by rw [beq_eq_false_iff_ne]; omega
  have e16 : (b == 16) = false := by rw [beq_eq_false_iff_ne]; omega
  have e17 : (b == 17) = false := by rw [beq_eq_false_iff_ne]; omega
  have e18 : (b == 18) = false := by rw [beq_eq_false_iff_ne]; omega
  have e19 : (b == 19) = false := by rw [beq_eq_false_iff_ne]; omega
  have e20 : (b == 20) = false := by rw [beq_eq_false_iff_ne]; omega
  have e21 : (b == 21) = false := by rw [beq_eq_false_iff_ne]; omega
  have e23 : (b == 23) = false := by rw [beq_eq_false_iff_ne]; omega
  have e24 : (b == 24) = false := by rw [beq_eq_false_iff_ne]; omega
  have ed : decRB b s = (rpo b, ([], true)) := by
    unfold decRB
    have hd : ¬ b ∈ dst := by
      unfold dst
      simp only [List.mem_cons, List.not_mem_nil, or_false]
      omega
    rw [if_neg (by omega), if_neg (by omega), if_neg hd, if_neg (by omega), if_neg (by omega), if_neg (by omega), if_neg (by omega), if_neg (by omega), if_neg (by omega), if_neg (by omega), if_neg (by omega), if_neg (by omega)]
  rw [ed] at hK
  unfold s14_p40
  refine bo_no e1 ?_
  refine sw_f ?_
  refine bo_no e22 ?_
  unfold s14_p39
  refine sw_f ?_
  unfold s14_p38
  refine bo_no e6 ?_
  unfold s14_p37
  refine sw_f ?_
  unfold s14_p36
  refine bo_no e2 ?_
  refine sw_f ?_
  refine bo_no e3 ?_
  refine sw_f ?_
  refine bo_no e4 ?_
  refine sw_f ?_
  refine bo_no e5 ?_
  refine sw_f ?_
  refine bo_no e7 ?_
  refine sw_f ?_
  refine bo_no e8 ?_
  unfold s14_p35
  refine sw_f ?_
  unfold s14_p34
  refine bo_no e9 ?_
  unfold s14_p33
  refine sw_f ?_
  unfold s14_p32
  refine bo_no e16 ?_
  unfold s14_p31
  refine sw_f ?_
  unfold s14_p30
  refine bo_no e17 ?_
  unfold s14_p29
  refine sw_f ?_
  unfold s14_p28
  refine bo_no e18 ?_
  unfold s14_p27
  refine sw_f ?_
  unfold s14_p26
  refine bo_no e19 ?_
  unfold s14_p25
  refine sw_f ?_
  unfold s14_p24
  refine bo_no e20 ?_
  unfold s14_p23
  refine sw_f ?_
  unfold s14_p22
  refine bo_no e21 ?_
  unfold s14_p21
  refine sw_f ?_
  unfold s14_p20
  refine bo_no e23 ?_
  unfold s14_p19
  refine sw_f ?_
  unfold s14_p18
  refine bo_no e24 ?_
  refine sw_f ?_
  have sz := h.sz
  refine rfail_ok h.rd fun w1 r1 hk1 => ?_
  have s1 := hk1.size
  have h1 : Dr F w0 w1 rb qb t2 ([], true) ((rpo b).cells nilS nilS nilS) := ⟨r1, hk1.row h.q (show ¬ qb = rb by omega), h.len, hk1.row h.t (show ¬ t2 = rb by omega), h.k.then hk1 fun b hb (q : b = rb) => by omega, ⟨sz.1, sz.2.1, by omega⟩, h.f, by simp⟩
  exact dr_plain h1 rfl rfl rfl rfl rfl hK
theorem dr_all (h : Dro F w0 w rb qb t2 s b) (hK : DK K w0 (decRB b s)) : s14_p40 K (P t2 0) (P rb 0) (P qb 0) (U8 b) w := by
  by_cases h1 : b = 1
  · subst h1; exact dr_1 h hK
  by_cases h22 : b = 22
  · subst h22; exact dr_22 h hK
  by_cases h6 : b = 6
  · subst h6; exact dr_6 h hK
  by_cases h2 : b = 2
  · subst h2; exact dr_2 h hK
  by_cases h3 : b = 3
  · subst h3; exact dr_3 h hK
  by_cases h4 : b = 4
  · subst h4; exact dr_4 h hK
  by_cases h5 : b = 5
  · subst h5; exact dr_5 h hK
  by_cases h7 : b = 7
  · subst h7; exact dr_7 h hK
  by_cases h8 : b = 8
  · subst h8; exact dr_8 h hK
  by_cases h9 : b = 9
  · subst h9; exact dr_9 h hK
  by_cases h16 : b = 16
  · subst h16; exact dr_16 h hK
  by_cases h17 : b = 17
  · subst h17; exact dr_17 h hK
  by_cases h18 : b = 18
  · subst h18; exact dr_18 h hK
  by_cases h19 : b = 19
  · subst h19; exact dr_19 h hK
  by_cases h20 : b = 20
  · subst h20; exact dr_20 h hK
  by_cases h21 : b = 21
  · subst h21; exact dr_21 h hK
  by_cases h23 : b = 23
  · subst h23; exact dr_23 h hK
  by_cases h24 : b = 24
  · subst h24; exact dr_24 h hK
  exact dr_no ⟨h1, h22, h6, h2, h3, h4, h5, h7, h8, h9, h16, h17, h18, h19, h20, h21, h23, h24⟩ h hK
set_option maxHeartbeats 2000000 in
/-- a reply is read -/
theorem decR_ok {bs : List Int} (h : Ar bC 1 F w v bs) (hB : By bs) (hF : ∀ b, F b → b < w.heap.size) (hl : bs.length ≤ 1000000000)
    (hK : ∀ w' l, Kp Emp w w' → Rv (Nb w w') w' l (decR bs).1 → K (.tuple #[.agg l.toArray, .bool (decR bs).2]) w') : cl Tryz.prog 14 #[v] K w := by
  apply c14
  unfold s14_p41
  refine nw_r fun w1 r1 hk1 hz1 => ?_
  replace r1 : Row w1 w.heap.size 46 (rp0.cells nilS nilS nilS) := r1
  refine rd_new (h.kp' hk1) hB (fun b q => by have := hF b q; omega) fun w2 d2 hk2 hz2 => ?_
  refine roct_ok d2 fun w3 d3 hk3 => ?_
  obtain ⟨⟨o0, o1⟩, oB, oL⟩ := rOct_b (s := (bs, false)) hB
  unfold decR at hK
  generalize (rOct (bs, false)).1 = o at hK o0 o1 ⊢
  generalize (rOct (bs, false)).2 = s at hK d3 oB oL
  have oL : s.1.length ≤ bs.length := oL
  simp only [e_cvi]
  rw [wrap64_id (by omega) (by omega)]
  have s3 := hk3.size
  refine bdq_r (l := ({ rp0 with code := o } : Rp).cells nilS nilS nilS) rfl ?_
  refine nw_r fun w4 r4 hk4 hz4 => ?_
  refine stn_r (cs := ({ rp0 with code := o } : Rp).cells nilS nilS nilS) r4 rfl (show 0 + 34 ≤ 34 by decide) (Rp.sc rfl rfl rfl) fun w5 r5 hk5 hz5 => ?_
  replace r5 : Row w5 w3.heap.size 46 (({ rp0 with code := o } : Rp).cells nilS nilS nilS) := r5
  have hF5 : ∀ b, F b → b ≠ w3.heap.size := fun b q => by have := hF b q; omega
  have d5 : Rd F w5 w1.heap.size s := (d3.kp' hk4).kp hk5 hF5 (show ¬ w1.heap.size = w3.heap.size by omega)
  have k5 : Kp Emp w w5 := (((hk1.trans hk2).then hk3 fun b hb (q : b = _) => by omega).trans hk4).then hk5 fun b hb (q : b = _) => by omega
  have rt5 : Row w5 w.heap.size 46 (rp0.cells nilS nilS nilS) := hk5.row (hk4.row' (hk3.row (hk2.row' r1) (show ¬ w.heap.size = _ by omega))) (show ¬ w.heap.size = _ by omega)
  have hsz : w.heap.size < w1.heap.size ∧ w1.heap.size < w3.heap.size ∧ w3.heap.size < w5.heap.size := ⟨by omega, by omega, by omega⟩
  generalize w3.heap.size = qb at r4 r5 hk5 hF5 hsz ⊢
  generalize w1.heap.size = rb at d2 d3 d5 hk3 hsz ⊢
  generalize ht2 : w.heap.size = t2 at rt5 hsz ⊢
  clear hk3 hk2 hk1 hk4 hk5 d2 d3 r4 r1
  have h5 : Dr F w w5 rb qb t2 s (({ rp0 with code := o } : Rp).cells nilS nilS nilS) := ⟨d5, r5, rfl, rt5, k5, ⟨⟨by omega, by omega⟩, by omega, by omega⟩, hF, by omega⟩
  refine fdp ?_
  refine ld1_r (v := I o) r5 rfl ?_
  by_cases c23 : (23 : Int) ≤ o
  · rw [if_pos c23] at hK
    simp only [e_geq, decide_eq_true c23, e_ift]
    refine bdq_r (l := rp0.cells nilS nilS nilS) rfl ?_
    refine stn_r (cs := rp0.cells nilS nilS nilS) rt5 rfl (show 0 + 34 ≤ 34 by decide) (Rp.sc rfl rfl rfl) fun w6 r6 hk6 hz6 => ?_
    replace r6 : Row w6 t2 46 (rp0.cells nilS nilS nilS) := r6
    refine ldn_r r6 (show 0 + 34 ≤ 34 by decide) ?_
    exact hK w6 _ (k5.then hk6 fun b hb (q : b = _) => by omega) rv0
  · rw [if_neg c23] at hK
    simp only [e_geq, decide_eq_false c23, e_iff]
    refine fdp ?_
    refine ld1_r (v := I o) r5 rfl ?_
    by_cases c0 : o = 0
    · rw [if_pos c0] at hK
      subst c0
      have e2 : ((0 : Int) != 0) = false := rfl
      simp only [e_neq, e2, e_iff]
      refine roct_ok d5 fun w6 d6 hk6 => ?_
      obtain ⟨⟨b0, b1⟩, bB, bL⟩ := rOct_b (s := s) oB
      generalize (rOct s).1 = b at hK b0 b1 ⊢
      generalize (rOct s).2 = s2 at hK d6 bB bL
      refine Dr.go (k := 1) h5 d6 hk6 (by omega) (by decide) rfl fun w7 h7 hk7 hz7 => ?_
      refine fdp ?_
      refine ld1_r (v := U8 b) h7.q rfl ?_
      exact dr_all (b := b) h7 hK
    · rw [if_neg c0] at hK
      have e2 : (o != 0) = true := by rw [nei, decide_eq_false c0]; rfl
      simp only [e_neq, e2, e_ift]
      exact dr_plain (p := { rp0 with code := o }) h5 rfl rfl rfl rfl rfl hK
end
end Go.Proofs.Qxb6500896aGreatDoor
