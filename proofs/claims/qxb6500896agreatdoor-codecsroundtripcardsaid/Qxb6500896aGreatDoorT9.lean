import Derived.Test.Qxb6500896aGreatDoorT8
import Derived.Test.Qxb6500896aGreatDoorK62
namespace Go.Proofs.Qxb6500896aGreatDoor
open Go.Sh Go.RowKit
set_option linter.unusedVariables false
set_option linter.unusedSimpArgs false

section
variable {w w' w0 : World} {K : Value → World → Prop} {v : Value} {F : Nat → Prop} {xs : List Int}
/-- an entry in words -/
theorem traceEntry_ok (h : Ar bC 1 F w v xs) (hF : ∀ b, F b → b < w.heap.size) (hb : By xs) (hl : xs.length ≤ 10000000) (hK : ∀ w' (s : ByteArray), Kp Emp w w' → s.size ≤ 100000000 → K (.string s) w') : cl Tryz.prog 61 #[v] K w := by
  apply c61
  unfold s61_p3
  refine par_ok h hb hF fun w1 l hk1 hq1 => ?_
  obtain ⟨lv, rfl, hlv⟩ := hq1
  have sz1 := hk1.size
  simp only [ex3_0, ex3_1, ex3_2]
  refine nw_r fun w2 r2 hk2 hz2 => ?_
  refine stn_r (cs := (par xs).2.1.cells lv) r2 rfl (show 0 + 8 ≤ 8 by decide) ?_ fun w3 r3 hk3 hz3 => ?_
  · have := hlv.scal
    simp only [Rq.cells, List.all_cons, List.all_nil, this]
    rfl
  replace r3 : Row w3 w1.heap.size 49 ((par xs).2.1.cells lv) := r3
  have k13 : Kp Emp w1 w3 := hk2.then hk3 fun c hc (q : c = _) => by omega
  have k3 := hk1.trans k13
  have hlv3 := hlv.kp' k13
  cases hp : (par xs).2.2 with
  | false =>
    simp only [Bool.not_false, e_fd, e_nck, e_pkt, e_pkf, e_gdtt, e_gdtf, e_gdft, e_gdff, e_ift, e_iff, e_not, e_ln, e_lnT, e_cp, e_cvi, e_ex20, e_ex21, e_ex30, e_ex31, e_ex32, e_add, e_sub, e_mul, e_quo, e_rem, e_and, e_or, e_xor, e_shl, e_shr, e_eql, e_neq, e_lss, e_leq, e_gtr, e_geq, e_beq, e_bne, e_peq1, e_peq2, e_pne1, e_pne2, e_zeq1, e_zeq2, e_zne1, e_zne2, e_feq1, e_fne1, e_feq2, e_fne2, e_seq, e_sne, e_ta1, e_ta2, Nat.zero_add, Nat.add_zero, Bool.not_true, Bool.not_false]
    refine hex_ok (h.kp' k3) (fun b q => by have := hF b q; omega) hb hl fun w4 s hk4 hs => ?_
    have e1 : (⟨#[101, 110, 116, 114, 121, 32, 117, 110, 114, 101, 97, 100, 97, 98, 108, 101, 32]⟩ : ByteArray).size = 17 := rfl
    refine cat_r (by omega) fun z hz => ?_
    exact hK w4 z (k3.trans hk4) (by omega)
  | true =>
    simp only [Bool.not_true, e_fd, e_nck, e_pkt, e_pkf, e_gdtt, e_gdtf, e_gdft, e_gdff, e_ift, e_iff, e_not, e_ln, e_lnT, e_cp, e_cvi, e_ex20, e_ex21, e_ex30, e_ex31, e_ex32, e_add, e_sub, e_mul, e_quo, e_rem, e_and, e_or, e_xor, e_shl, e_shr, e_eql, e_neq, e_lss, e_leq, e_gtr, e_geq, e_beq, e_bne, e_peq1, e_peq2, e_pne1, e_pne2, e_zeq1, e_zeq2, e_zne1, e_zne2, e_feq1, e_fne1, e_feq2, e_fne2, e_seq, e_sne, e_ta1, e_ta2, Nat.zero_add, Nat.add_zero, Bool.not_true, Bool.not_false]
    unfold s61_p2 s61_p2_d
    have kd : Kp Emp w3 (drw w3) := kp_drw
    have hdz : (drw w3).heap.size = w3.heap.size := rfl
    generalize drw w3 = w4 at kd hdz ⊢
    have hN := par_x hp
    have hlv4 := hlv3.kp' kd
    refine ldn_r (kd.row' r3) (show 0 + 8 ≤ 8 by decide) ?_
    have el : (((par xs).2.1.cells lv).drop 0).take 8 = (par xs).2.1.cells lv := rfl
    rw [el]
    generalize (par xs).2.1 = q at hlv4 hN ⊢
    have da : ∀ {w5 : World} {X : Value → World → Prop}, (∀ w6 d, Kp Emp w5 w6 → d.size ≤ 20 → X (.string d) w6) → cl Tryz.prog 56 #[I ((par xs).1 : Nat)] X w5 := fun hX => decimal_ok ⟨by omega, by have := hN.2.2; omega⟩ hX
    have ds : ∀ {w5 : World} {X : Value → World → Prop}, Kp Emp w4 w5 → (∀ w6 d, Kp Emp w5 w6 → d.size ≤ 100000 → X (.string d) w6) → cl Tryz.prog 69 #[.agg (q.cells lv).toArray] X w5 := fun hk hX => fmtReq_ok (hlv4.kp' hk) (fun b hb => by have := hb.2; have := hk.size; omega) hN.1 (fun w6 d h1 h2 h3 => hX w6 d h1 h3)
    have p1 : ∀ (w' : World) (z : ByteArray), Kp Emp w4 w' → z.size ≤ 100000000 → s61_p1 K (.string z) w' := by
      intro w' z hk' hz
      unfold s61_p1
      exact hK w' z ((k3.trans kd).trans hk') hz
    have e1 : (⟨#[101, 110, 116, 114, 121, 32]⟩ : ByteArray).size = 6 := rfl
    have e2 : (⟨#[58, 32]⟩ : ByteArray).size = 2 := rfl
    repeat' first
      | exact (Kp.refl _ _).below'
      | exact ka.below'
      | exact (ka.trans kb).below'
      | exact p1 _ _ (ka.trans kb) (by omega)
      | refine cat_r (by omega) fun z hz => ?_
      | refine And.intro ?_ ?_
      | refine ds ka fun wb xb kb hb => ?_
      | refine da fun wa xa ka ha => ?_
end
end Go.Proofs.Qxb6500896aGreatDoor
