import Derived.Test.Qxb6500896aGreatDoorT2
namespace Go.Proofs.Qxb6500896aGreatDoor
open Go.Sh Go.RowKit
set_option linter.unusedVariables false
set_option linter.unusedSimpArgs false

section
variable {w w' w0 : World} {K : Value → World → Prop} {v : Value} {ob : Option Nat} {xs : List UInt8} {s : ByteArray} {t lo n kb : Nat} {T : TypeId} {l : List Value} {xr : List (Nat × TypeId × List Value)} {F : Nat → Prop} {ls : List Leg} {lv : Value}
theorem cat_r {x y : ByteArray} {X : Value → World → Prop} (h : x.size + y.size ≤ 1000000000) (hX : ∀ z : ByteArray, z.size = x.size + y.size → X (.string z) w) : boS .add (.string x) (.string y) X w :=
  ⟨by omega, hX _ ByteArray.size_append⟩
set_option maxHeartbeats 1000000 in
/-- a ticket in words -/
theorem legs_ok (h : Tx w0 w t lo n kb T l xr) (ha : Ar lC 2 F w lv ls) (hl : ls.length ≤ 8) (hF : ∀ b, F b → b < w0.heap.size) (hN : LegsN ls) (hn : n ≤ 8000000000) (hK : ∀ w', Tx w0 w' t lo (n + 1000) kb T l xr → K (P t 0) w') : cl Tryz.prog 101 #[P t 0, lv] K w := by
  apply c101
  unfold s101_p7
  refine ha.ln ?_
  unfold s101_p6
  refine loop_n ls.length (fun i l' w' => ∃ s : ByteArray, l' = [P t 0, .string s, lv, I (ls.length : Nat), I (i : Nat)] ∧ s.size ≤ 1 + 50 * i ∧ Tx w0 w' t lo n kb T l xr ∧ Kp Emp w w') ⟨_, rfl, by decide, h, Kp.refl _ _⟩ ?_ ?_
  · rintro i l' w1 hi ⟨s, rfl, hs, h1, hk1⟩ B hB
    rw [s101_p6_Fe]
    unfold s101_p5
    simp only [dlt hi, e_lss, e_ift]
    unfold s101_p4
    refine each_r rfl (ha.kp' hk1) hi rfl rfl fun w2 r2 hk2 hz2 => ?_
    have hN := hN _ (List.getElem_mem hi)
    have h2 := h1.emp hk2
    have k2 := hk1.trans hk2
    generalize ls[i] = g at hN r2
    have p3 : ∀ s' : ByteArray, s'.size ≤ 2 + 50 * i → s101_p3 K B (P t 0) (.string s') (P w1.heap.size 0) lv (I (ls.length : Nat)) (I (i : Nat)) w2 := by
      intro s' hs'
      unfold s101_p3 s101_p3_d
      have kd : Kp Emp w2 (drw w2) := kp_drw
      generalize drw w2 = w3 at kd ⊢
      have r3 := kd.row' r2
      have p2 : ∀ (w' : World) (z : ByteArray), Kp Emp w3 w' → z.size ≤ 43 + 2 + 50 * i → s101_p2 K B (P t 0) (.string z) lv (I (ls.length : Nat)) (I (i : Nat)) w' := by
        intro w' z hk' hz
        unfold s101_p2
        try simp only [e_fd, e_nck, e_pkt, e_pkf, e_gdtt, e_gdtf, e_gdft, e_gdff, e_ift, e_iff, e_not, e_ln, e_lnT, e_cp, e_cvi, e_ex20, e_ex21, e_ex30, e_ex31, e_ex32, e_add, e_sub, e_mul, e_quo, e_rem, e_and, e_or, e_xor, e_shl, e_shr, e_eql, e_neq, e_lss, e_leq, e_gtr, e_geq, e_beq, e_bne, e_peq1, e_peq2, e_pne1, e_pne2, e_zeq1, e_zeq2, e_zne1, e_zne2, e_feq1, e_fne1, e_feq2, e_fne2, e_seq, e_sne, e_ta1, e_ta2, Nat.zero_add, Nat.add_zero, Bool.not_true, Bool.not_false]
        rw [inc i (by omega)]
        exact hB _ _ ⟨z, rfl, by omega, (h2.emp kd).emp hk', (k2.trans kd).trans hk'⟩
      have e64 : (⟨#[64]⟩ : ByteArray).size = 1 := rfl
      refine fdp (ld1_r (v := I g.a) r3 rfl ?_)
      refine fdp (ld1_r (v := I g.s) r3 rfl ?_)
      have dg : ∀ {x : Int} {w4 : World} {X : Value → World → Prop}, (x = g.a ∨ x = g.s) → (∀ w5 d, Kp Emp w4 w5 → d.size ≤ 20 → X (.string d) w5) → cl Tryz.prog 56 #[I x] X w4 := fun hx hX => decimal_ok (by
        have h1 := hN.1.1
        have h2 := hN.2.1
        rcases hx with rfl | rfl
        · exact ⟨by omega, hN.1.2⟩
        · exact ⟨by omega, hN.2.2⟩) hX
      repeat' first
        | exact (Kp.refl _ _).below'
        | exact ka.below'
        | exact (ka.trans kb).below'
        | exact p2 _ _ (ka.trans kb) (by omega)
        | refine cat_r (by omega) fun z hz => ?_
        | refine And.intro ?_ ?_
        | refine dg (by exact .inl rfl) fun wa xa ka ha => ?_
        | refine dg (by exact .inr rfl) fun wb xb kb hb => ?_
    by_cases h0 : (0 : Int) < ((i : Nat) : Int)
    · simp only [h0, decide_true, e_gtr, e_ift]
      have e32 : (⟨#[32]⟩ : ByteArray).size = 1 := rfl
      refine cat_r (by omega) fun z hz => p3 z (by omega)
    · simp only [h0, decide_false, e_gtr, e_iff]
      exact p3 s (by omega)
  · rintro l' w1 ⟨s, rfl, hs, h1, hk1⟩ B
    rw [s101_p6_Fe]
    unfold s101_p5
    simp only [dnlt, e_lss, e_iff]
    unfold s101_p1
    have e1 : (⟨#[108, 101, 103, 115, 61]⟩ : ByteArray).size = 5 := rfl
    have e2 : (⟨#[93]⟩ : ByteArray).size = 1 := rfl
    refine cat_r (by omega) fun z hz => ?_
    refine cat_r (by omega) fun z2 hz2 => ?_
    refine word_ok h1 (by omega) fun w2 h2 => ?_
    exact hK w2 ((h2.mono (by omega)).low (by omega))
end
end Go.Proofs.Qxb6500896aGreatDoor
