import Derived.Test.Qxb6500896aGreatDoorT18
import Derived.Test.Qxb6500896aGreatDoorT8
namespace Go.Proofs.Qxb6500896aGreatDoor
open Go.Sh Go.RowKit
set_option linter.unusedVariables false
set_option linter.unusedSimpArgs false

section
variable {w w' w0 : World} {K : Value → World → Prop} {v iv rv wv : Value} {t lo n kb : Nat} {F : Nat → Prop} {p : Rp} {b : Int}
theorem fp_all (hg : Gl w0) (h : TxR w0 w t 300 kb p iv rv wv) (hN : RpN p) (hc : p.cnt.length = 10) (hi : Ar isC2 2 F w0 iv p.iss) (hr : Ro F w0 rv p.recs) (hw : Ar iC 1 F w0 wv p.wt) (hF : ∀ b, F b → b < w0.heap.size) (hK : NE K w0) : s70_p47 K (P kb 0) (P t 0) (U8 b) w := by
  have q27 : s70_p27 K (P kb 0) (P t 0) (U8 b) w := by
    unfold s70_p27
    cases hb : (b == 24) with
    | true =>
      refine bo_yes hb ?_
      unfold s70_p26
      exact sw_t (fp_p25 h hN hc (by decide) hK)
    | false =>
      refine bo_no hb ?_
      unfold s70_p26
      exact sw_f (fp_end h hK)
  have q29 : s70_p29 K (P kb 0) (P t 0) (U8 b) w := by
    unfold s70_p29
    cases hb : (b == 23) with
    | true =>
      refine bo_yes hb ?_
      unfold s70_p28
      exact sw_t (fp_p24 hg h hN hc (by decide) hK)
    | false =>
      refine bo_no hb ?_
      unfold s70_p28
      exact sw_f (q27)
  have q31 : s70_p31 K (P kb 0) (P t 0) (U8 b) w := by
    unfold s70_p31
    cases hb : (b == 21) with
    | true =>
      refine bo_yes hb ?_
      unfold s70_p30
      exact sw_t (fp_p19 h hN (by decide) hK)
    | false =>
      refine bo_no hb ?_
      unfold s70_p30
      exact sw_f (q29)
  have q33 : s70_p33 K (P kb 0) (P t 0) (U8 b) w := by
    unfold s70_p33
    cases hb : (b == 20) with
    | true =>
      refine bo_yes hb ?_
      unfold s70_p32
      exact sw_t (fp_p18 h hN (by decide) hK)
    | false =>
      refine bo_no hb ?_
      unfold s70_p32
      exact sw_f (q31)
  have q35 : s70_p35 K (P kb 0) (P t 0) (U8 b) w := by
    unfold s70_p35
    cases hb : (b == 19) with
    | true =>
      refine bo_yes hb ?_
      unfold s70_p34
      exact sw_t (fp_p17 h hN hw (by decide) hK)
    | false =>
      refine bo_no hb ?_
      unfold s70_p34
      exact sw_f (q33)
  have q37 : s70_p37 K (P kb 0) (P t 0) (U8 b) w := by
    unfold s70_p37
    cases hb : (b == 18) with
    | true =>
      refine bo_yes hb ?_
      unfold s70_p36
      exact sw_t (fp_p16 h hN (by decide) hK)
    | false =>
      refine bo_no hb ?_
      unfold s70_p36
      exact sw_f (q35)
  have r38 : ∀ c : Bool, s70_p38 K (P kb 0) (P t 0) (U8 b) (.bool c) w := by
    intro c
    unfold s70_p38
    cases c with
    | true => exact sw_t (fp_p15 hg h hN hr hF (by decide) hK)
    | false => exact sw_f (q37)
  have q39 : s70_p39 K (P kb 0) (P t 0) (U8 b) w := by
    unfold s70_p39
    cases hb16 : (b == 16) with
    | true => exact bo_yes hb16 (sw_t (r38 true))
    | false =>
    refine bo_no hb16 (sw_f ?_)
    cases hb17 : (b == 17) with
    | true => exact bo_yes hb17 (r38 true)
    | false => exact bo_no hb17 (r38 false)
  have q41 : s70_p41 K (P kb 0) (P t 0) (U8 b) w := by
    unfold s70_p41
    cases hb : (b == 9) with
    | true =>
      refine bo_yes hb ?_
      unfold s70_p40
      exact sw_t (fp_p11 h hN hi (by decide) hK)
    | false =>
      refine bo_no hb ?_
      unfold s70_p40
      exact sw_f q39
  have r42 : ∀ c : Bool, s70_p42 K (P kb 0) (P t 0) (U8 b) (.bool c) w := by
    intro c
    unfold s70_p42
    cases c with
    | true => exact sw_t (fp_p4 hg h hN (by decide) hK)
    | false => exact sw_f (q41)
  have q43 : s70_p43 K (P kb 0) (P t 0) (U8 b) w := by
    unfold s70_p43
    cases hb2 : (b == 2) with
    | true => exact bo_yes hb2 (sw_t (r42 true))
    | false =>
    refine bo_no hb2 (sw_f ?_)
    cases hb3 : (b == 3) with
    | true => exact bo_yes hb3 (sw_t (r42 true))
    | false =>
    refine bo_no hb3 (sw_f ?_)
    cases hb4 : (b == 4) with
    | true => exact bo_yes hb4 (sw_t (r42 true))
    | false =>
    refine bo_no hb4 (sw_f ?_)
    cases hb5 : (b == 5) with
    | true => exact bo_yes hb5 (sw_t (r42 true))
    | false =>
    refine bo_no hb5 (sw_f ?_)
    cases hb7 : (b == 7) with
    | true => exact bo_yes hb7 (sw_t (r42 true))
    | false =>
    refine bo_no hb7 (sw_f ?_)
    cases hb8 : (b == 8) with
    | true => exact bo_yes hb8 (r42 true)
    | false => exact bo_no hb8 (r42 false)
  have q45 : s70_p45 K (P kb 0) (P t 0) (U8 b) w := by
    unfold s70_p45
    cases hb : (b == 6) with
    | true =>
      refine bo_yes hb ?_
      unfold s70_p44
      exact sw_t (fp_p3 h hN (by decide) hK)
    | false =>
      refine bo_no hb ?_
      unfold s70_p44
      exact sw_f q43
  have r46 : ∀ c : Bool, s70_p46 K (P kb 0) (P t 0) (U8 b) (.bool c) w := by
    intro c
    unfold s70_p46
    cases c with
    | true => exact sw_t (fp_p2 h hN (by decide) hK)
    | false => exact sw_f (q45)
  have q47 : s70_p47 K (P kb 0) (P t 0) (U8 b) w := by
    unfold s70_p47
    cases hb1 : (b == 1) with
    | true => exact bo_yes hb1 (sw_t (r46 true))
    | false =>
    refine bo_no hb1 (sw_f ?_)
    cases hb22 : (b == 22) with
    | true => exact bo_yes hb22 (r46 true)
    | false => exact bo_no hb22 (r46 false)
  exact q47
/-- a reply in words -/
theorem fmtRep_ok {l : List Value} (hg : Gl w) (hv : Rv F w l p) (hF : ∀ b, F b → b < w.heap.size) (hN : RpN p) (hK : NE K w) : cl Tryz.prog 70 #[.agg l.toArray] K w := by
  obtain ⟨iv, rv, wv, rfl, hi, hr, hw, hc⟩ := hv
  apply c70
  unfold s70_p53
  refine nw_r fun w1 r1 hk1 hz1 => ?_
  replace r1 : Row w1 w.heap.size 46 (p.cells iv rv wv) := by
    have := r1
    rw [List.toList_toArray] at this
    exact this
  refine bdq_r (l := [.slice none 0 0]) rfl ?_
  refine nw_r fun w2 r2 hk2 hz2 => ?_
  replace r2 : Row w2 w1.heap.size 169 [.slice none 0 0] := r2
  have h2 : Tx w w2 w1.heap.size 0 0 w.heap.size 46 (p.cells iv rv wv) [] := ⟨⟨none, _, [], r2, ⟨rfl, rfl⟩, ⟨Nat.le_refl _, Nat.le_refl _⟩, fun b e => by cases e⟩, by omega, hk1.trans hk2, hk2.row' r1, ⟨by decide, by decide⟩, fun x hx => by cases hx⟩
  refine fdp (ld1_r (v := I p.code) h2.kr rfl ?_)
  simp only [e_neq]
  unfold s70_p52
  have hcode := hN.code
  have hop := hN.op
  cases h0 : (p.code != 0) with
  | true =>
    refine sw_t ?_
    unfold s70_p51 s70_p51_d
    have kd : Kp Emp w2 (drw w2) := kp_drw
    generalize drw w2 = w3 at kd ⊢
    have h3 := h2.emp kd
    refine ⟨fun w' => Row w' w.heap.size 46 (p.cells iv rv wv), h3.kr, ?_⟩
    refine fdp ⟨_, fun w' hJ => ld1_r (v := I p.code) hJ rfl ⟨rfl, rfl⟩, ?_⟩
    have e1 : (⟨#[114, 101, 102, 117, 115, 101, 100, 58]⟩ : ByteArray).size = 8 := rfl
    refine word_ok h3 (by omega) fun w4 h4 => ⟨h4.kr, ?_⟩
    refine codeName_ok (hg.kp' h4.k) ⟨by omega, by omega⟩ fun w5 s hk5 s1 s2 => ?_
    refine word_ok (h4.emp hk5) (by omega) fun w6 h6 => ?_
    refine string_ok (h6.low (show 1 ≤ _ by omega)) (Nat.le_refl _) fun s h1 h2 => ?_
    unfold s70_p50
    exact hK w6 s h6.k h1
  | false =>
    refine sw_f ?_
    unfold s70_p49 s70_p49_d
    have kd : Kp Emp w2 (drw w2) := kp_drw
    generalize drw w2 = w3 at kd ⊢
    have h3 := h2.emp kd
    refine ⟨fun w' => Row w' w.heap.size 46 (p.cells iv rv wv), h3.kr, ?_⟩
    refine fdp ⟨_, fun w' hJ => ld1_r (v := U8 p.op) hJ rfl ⟨rfl, rfl⟩, ?_⟩
    have e1 : (⟨#[111, 107]⟩ : ByteArray).size = 2 := rfl
    refine word_ok h3 (by omega) fun w4 h4 => ⟨h4.kr, ?_⟩
    refine opName_ok (by omega) fun w5 s hk5 s1 s2 => ?_
    refine word_ok (h4.emp hk5) (by omega) fun w6 h6 => ?_
    have h7 : TxR w w6 w1.heap.size 300 w.heap.size p iv rv wv := (h6.mono (by omega)).low (by omega)
    unfold s70_p48
    refine fdp (ld1_r (v := U8 p.op) h7.kr rfl ?_)
    exact fp_all hg h7 hN hc hi hr hw hF hK
theorem descReq_ok {bs : List Int} (h : Ar bC 1 F w v bs) (hB : By bs) (hF : ∀ b, F b → b < w.heap.size) (hl : bs.length ≤ 1000000) (hK : NE K w) : cl Tryz.prog 32 #[v] K w := by
  apply c32
  unfold s32_p1
  refine dec_ok h hB hF fun w1 l1 hk1 hq1 => ?_
  obtain ⟨lv, rfl, hlv⟩ := hq1
  have sz1 := hk1.size
  simp only [ex2_0, ex2_1]
  refine nw_r fun w2 r2 hk2 hz2 => ?_
  refine stn_r (cs := (dec bs).1.cells lv) r2 rfl (show 0 + 8 ≤ 8 by decide) (by unfold Rq.cells; simp only [List.all_cons, List.all_nil, hlv.scal]; rfl) fun w3 r3 hk3 hz3 => ?_
  replace r3 : Row w3 w1.heap.size 49 ((dec bs).1.cells lv) := r3
  have k13 : Kp Emp w1 w3 := hk2.then hk3 fun c hc (q : c = _) => by omega
  have k3 := hk1.trans k13
  have sz3 := k3.size
  simp only [e_neq]
  by_cases h0 : (dec bs).2 = 0
  · have e0 : ((((dec bs).2 : Nat) : Int) != 0) = false := by rw [h0]; rfl
    simp only [e0, e_iff]
    have hN := dec_x h0
    refine ldn_r r3 (show 0 + 8 ≤ 8 by decide) ?_
    refine fmtReq_ok (hlv.kp' k13) (fun b hb => by have := hb.2; have := k13.size; omega) hN fun w4 s hk4 s1 s2 => ?_
    exact hK w4 s (k3.trans hk4) s1
  · have e0 : ((((dec bs).2 : Nat) : Int) != 0) = true := by rw [bne_iff_ne]; omega
    simp only [e0, e_ift]
    refine hex_ok (h.kp' k3) (fun b q => by have := hF b q; omega) hB (by omega) fun w4 s hk4 hs => ?_
    have e1 : (⟨#[109, 97, 108, 102, 111, 114, 109, 101, 100, 32]⟩ : ByteArray).size = 10 := rfl
    refine cat_r (by omega) fun z hz => ?_
    exact hK w4 z (k3.trans hk4) (by omega)
theorem descRep_ok {bs : List Int} (hg : Gl w) (h : Ar bC 1 F w v bs) (hB : By bs) (hF : ∀ b, F b → b < w.heap.size) (hl : (decR bs).2 = false → bs.length ≤ 1000000) (hl2 : bs.length ≤ 1000000000) (hN : RpN (decR bs).1) (hK : NE K w) : cl Tryz.prog 33 #[v] K w := by
  apply c33
  unfold s33_p1
  refine decR_ok h hB hF hl2 fun w1 l1 hk1 hv1 => ?_
  have sz1 := hk1.size
  simp only [ex2_0, ex2_1]
  refine nw_r fun w2 r2 hk2 hz2 => ?_
  have hl34 := hv1.len
  refine stn_r (cs := l1) r2 hl34 (show 0 + 34 ≤ 34 by decide) hv1.sc fun w3 r3 hk3 hz3 => ?_
  rw [List.take_zero, List.nil_append, Nat.zero_add, List.drop_of_length_le (by decide), List.append_nil] at r3
  have k13 : Kp Emp w1 w3 := hk2.then hk3 fun c hc (q : c = _) => by omega
  have k3 := hk1.trans k13
  have sz3 := k3.size
  have sz13 := k13.size
  cases hd : (decR bs).2 with
  | false =>
    simp only [Bool.not_false, e_not, e_ift]
    have := hl hd
    refine hex_ok (h.kp' k3) (fun b q => by have := hF b q; omega) hB (by omega) fun w4 s hk4 hs => ?_
    have e1 : (⟨#[110, 111, 32, 114, 101, 112, 108, 121, 32]⟩ : ByteArray).size = 9 := rfl
    refine cat_r (by omega) fun z hz => ?_
    exact hK w4 z (k3.trans hk4) (by omega)
  | true =>
    simp only [Bool.not_true, e_not, e_iff]
    refine ldn_r r3 (by omega) ?_
    rw [List.drop_zero, List.take_of_length_le (by omega)]
    refine fmtRep_ok (hg.kp' k3) (hv1.kp k13 fun b _ q => q) (fun b hb => by have := hb.2; omega) hN fun w4 s hk4 s1 => ?_
    exact hK w4 s (k3.trans hk4) s1
end
end Go.Proofs.Qxb6500896aGreatDoor
