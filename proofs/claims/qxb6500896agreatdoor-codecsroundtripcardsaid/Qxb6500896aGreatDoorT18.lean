import Derived.Test.Qxb6500896aGreatDoorT17
import Derived.Test.Qxb6500896aGreatDoorN17
namespace Go.Proofs.Qxb6500896aGreatDoor
open Go.Sh Go.RowKit
set_option linter.unusedVariables false
set_option linter.unusedSimpArgs false

section
variable {w w' w0 : World} {K : Value → World → Prop} {v iv rv wv : Value} {t lo n kb : Nat} {T : TypeId} {l : List Value} {F : Nat → Prop} {xr : List (Nat × TypeId × List Value)} {p : Rp}
/-- a string that is not empty -/
def NE (K : Value → World → Prop) (w0 : World) : Prop := ∀ w' (s : ByteArray), Kp Emp w0 w' → 1 ≤ s.size → K (.string s) w'
abbrev TxR (w0 w : World) (t n kb : Nat) (p : Rp) (iv rv wv : Value) : Prop := Tx w0 w t 1 n kb 46 (p.cells iv rv wv) []
theorem fp_end (h : Tx w0 w t 1 n kb T l xr) (hK : NE K w0) : s70_p1 K (P t 0) w := by
  unfold s70_p1
  exact string_ok h (Nat.le_refl _) fun s h1 h2 => hK w s h.k h1
theorem cell_32 (hc : p.cnt.length = 10) : (p.cells iv rv wv)[32]? = some (I p.at') ∧ (p.cells iv rv wv)[33]? = some (I p.ah) := by
  unfold Rp.cells
  constructor
  · rw [List.getElem?_append_right (by simp), List.getElem?_append_right (by simp; omega)]
    simp [hc]
  · rw [List.getElem?_append_right (by simp), List.getElem?_append_right (by simp; omega)]
    simp [hc]
theorem fp_p2 (h : TxR w0 w t n kb p iv rv wv) (hN : RpN p) (hn : n ≤ 1000000000) (hK : NE K w0) : s70_p2 K (P kb 0) (P t 0) w := by
  unfold s70_p2 s70_p2_d
  have kd : Kp Emp w (drw w) := kp_drw
  generalize drw w = w1 at kd ⊢
  have h1 := h.emp kd
  refine ⟨fun w' => Row w' kb 46 (p.cells iv rv wv), h1.kr, ?_⟩
  refine fdp ⟨_, fun w' hJ => ld1_r (v := I p.id) hJ rfl ⟨rfl, rfl⟩, ?_⟩
  refine fdp ⟨_, fun w' hJ => ld1_r (v := I p.ex) hJ rfl ⟨rfl, rfl⟩, ?_⟩
  have e1 : (⟨#[105, 100]⟩ : ByteArray).size = 2 := rfl
  have e2 : (⟨#[101, 120, 112, 105, 114, 121]⟩ : ByteArray).size = 6 := rfl
  refine field_ok h1 (by omega) (n63w hN.id) fun w2 h2 => ⟨h2.kr, ?_⟩
  exact field_ok h2 (by omega) (n63w hN.ex) fun w3 h3 => fp_end h3 hK
theorem fp_p3 (h : TxR w0 w t n kb p iv rv wv) (hN : RpN p) (hn : n ≤ 1000000000) (hK : NE K w0) : s70_p3 K (P kb 0) (P t 0) w := by
  unfold s70_p3 s70_p3_d
  have kd : Kp Emp w (drw w) := kp_drw
  generalize drw w = w1 at kd ⊢
  have h1 := h.emp kd
  refine ⟨fun w' => Row w' kb 46 (p.cells iv rv wv), h1.kr, ?_⟩
  refine fdp ⟨_, fun w' hJ => ld1_r (v := I p.id) hJ rfl ⟨rfl, rfl⟩, ?_⟩
  refine fdp ⟨_, fun w' hJ => ld1_r (v := I p.pos) hJ rfl ⟨rfl, rfl⟩, ?_⟩
  have e1 : (⟨#[105, 100]⟩ : ByteArray).size = 2 := rfl
  have e2 : (⟨#[112, 111, 115, 105, 116, 105, 111, 110]⟩ : ByteArray).size = 8 := rfl
  refine field_ok h1 (by omega) (n63w hN.id) fun w2 h2 => ⟨h2.kr, ?_⟩
  exact field_ok h2 (by omega) (n63w hN.pos) fun w3 h3 => fp_end h3 hK
theorem fp_p5 (h : TxR w0 w t n kb p iv rv wv) (hN : RpN p) (hn : n ≤ 1000000000) (hK : NE K w0) : s70_p5 K (P kb 0) (P t 0) w := by
  unfold s70_p5 s70_p5_d
  have kd : Kp Emp w (drw w) := kp_drw
  generalize drw w = w1 at kd ⊢
  have h1 := h.emp kd
  refine ⟨fun w' => Row w' kb 46 (p.cells iv rv wv), h1.kr, ?_⟩
  refine fdp ⟨_, fun w' hJ => ld1_r (v := I p.exd) hJ rfl ⟨rfl, rfl⟩, ?_⟩
  refine fdp ⟨_, fun w' hJ => ld1_r (v := I p.ns) hJ rfl ⟨rfl, rfl⟩, ?_⟩
  refine fdp ⟨_, fun w' hJ => ld1_r (v := I p.lp) hJ rfl ⟨rfl, rfl⟩, ?_⟩
  have e1 : (⟨#[101, 120, 112, 105, 114, 101, 100]⟩ : ByteArray).size = 7 := rfl
  have e2 : (⟨#[110, 111, 45, 115, 104, 111, 119, 115]⟩ : ByteArray).size = 8 := rfl
  have e3 : (⟨#[108, 97, 112, 115, 101, 100]⟩ : ByteArray).size = 6 := rfl
  refine field_ok h1 (by omega) (n63w hN.exd) fun w2 h2 => ⟨h2.kr, ?_⟩
  refine field_ok h2 (by omega) (n63w hN.ns) fun w3 h3 => ⟨h3.kr, ?_⟩
  exact field_ok h3 (by omega) (n63w hN.lp) fun w4 h4 => fp_end h4 hK
theorem fp_p18 (h : TxR w0 w t n kb p iv rv wv) (hN : RpN p) (hn : n ≤ 1000000000) (hK : NE K w0) : s70_p18 K (P kb 0) (P t 0) w := by
  unfold s70_p18 s70_p18_d
  have kd : Kp Emp w (drw w) := kp_drw
  generalize drw w = w1 at kd ⊢
  have h1 := h.emp kd
  refine ⟨fun w' => Row w' kb 46 (p.cells iv rv wv), h1.kr, ?_⟩
  refine fdp ⟨_, fun w' hJ => ld1_r (v := I p.now) hJ rfl ⟨rfl, rfl⟩, ?_⟩
  refine fdp ⟨_, fun w' hJ => ld1_r (v := I p.la) hJ rfl ⟨rfl, rfl⟩, ?_⟩
  refine fdp ⟨_, fun w' hJ => ld1_r (v := I p.gr) hJ rfl ⟨rfl, rfl⟩, ?_⟩
  have e1 : (⟨#[110, 111, 119]⟩ : ByteArray).size = 3 := rfl
  have e2 : (⟨#[108, 97, 115, 116]⟩ : ByteArray).size = 4 := rfl
  have e3 : (⟨#[103, 114, 97, 110, 116, 101, 100]⟩ : ByteArray).size = 7 := rfl
  refine field_ok h1 (by omega) (n63w hN.now) fun w2 h2 => ⟨h2.kr, ?_⟩
  refine field_ok h2 (by omega) (n63w hN.la) fun w3 h3 => ⟨h3.kr, ?_⟩
  exact field_ok h3 (by omega) (n63w hN.gr) fun w4 h4 => fp_end h4 hK
theorem fp_p25 (h : TxR w0 w t n kb p iv rv wv) (hN : RpN p) (hc : p.cnt.length = 10) (hn : n ≤ 1000000000) (hK : NE K w0) : s70_p25 K (P kb 0) (P t 0) w := by
  unfold s70_p25 s70_p25_d
  have kd : Kp Emp w (drw w) := kp_drw
  generalize drw w = w1 at kd ⊢
  have h1 := h.emp kd
  refine ⟨fun w' => Row w' kb 46 (p.cells iv rv wv), h1.kr, ?_⟩
  refine fdp ⟨_, fun w' hJ => ld1_r (v := I p.at') hJ (cell_32 hc).1 ⟨rfl, rfl⟩, ?_⟩
  refine fdp ⟨_, fun w' hJ => ld1_r (v := I p.pos) hJ rfl ⟨rfl, rfl⟩, ?_⟩
  refine fdp ⟨_, fun w' hJ => ld1_r (v := I p.ah) hJ (cell_32 hc).2 ⟨rfl, rfl⟩, ?_⟩
  have e1 : (⟨#[97, 116, 116, 114, 97, 99, 116, 105, 111, 110]⟩ : ByteArray).size = 10 := rfl
  have e2 : (⟨#[112, 111, 115, 105, 116, 105, 111, 110]⟩ : ByteArray).size = 8 := rfl
  have e3 : (⟨#[97, 104, 101, 97, 100]⟩ : ByteArray).size = 5 := rfl
  refine field_ok h1 (by omega) (n63w hN.at') fun w2 h2 => ⟨h2.kr, ?_⟩
  refine field_ok h2 (by omega) (n63w hN.pos) fun w3 h3 => ⟨h3.kr, ?_⟩
  exact field_ok h3 (by omega) (n63w hN.ah) fun w4 h4 => fp_end h4 hK
theorem fp_p4 (hg : Gl w0) (h : TxR w0 w t n kb p iv rv wv) (hN : RpN p) (hn : n ≤ 1000000000) (hK : NE K w0) : s70_p4 K (P kb 0) (P t 0) w := by
  unfold s70_p4
  refine fdp (ld1_r (v := I p.st) h.kr rfl ?_)
  refine statusName_ok (hg.kp' h.k) (n63w hN.st) fun w1 s hk1 s1 s2 => ?_
  exact word_ok (h.emp hk1) (by omega) fun w2 h2 => fp_end (h2.low (by omega)) hK
theorem fp_p19 (h : TxR w0 w t n kb p iv rv wv) (hN : RpN p) (hn : n ≤ 1000000000) (hK : NE K w0) : s70_p19 K (P kb 0) (P t 0) w := by
  unfold s70_p19
  refine fdp (ld1_r (v := I p.sl) h.kr rfl ?_)
  have e1 : (⟨#[115, 108, 111, 116]⟩ : ByteArray).size = 4 := rfl
  exact field_ok h (by omega) (n63w hN.sl) fun w2 h2 => fp_end h2 hK
theorem fp_p17 (h : TxR w0 w t n kb p iv rv wv) (hN : RpN p) (ha : Ar iC 1 F w0 wv p.wt) (hn : n ≤ 1000000000) (hK : NE K w0) : s70_p17 K (P kb 0) (P t 0) w := by
  unfold s70_p17
  refine fdp (ld1_r (v := wv) h.kr rfl ?_)
  have e1 : (⟨#[119, 97, 105, 116, 105, 110, 103]⟩ : ByteArray).size = 7 := rfl
  exact ids_ok h (ha.kp' h.k) hN.wl hN.wt (by omega) fun w2 h2 => fp_end h2 hK
theorem ent_ar {w' : World} (r : Row w' kb 46 (p.cells iv rv wv)) : Ar iC 1 (fun b => b = kb) w' (.slice (some ⟨kb, 14, none⟩) 3 3) [p.e0, p.e1, p.e2] := by
  refine ⟨by simp, .inr ⟨kb, 14, 3, rfl, by simp, rfl, by simp, fun i hi => ?_⟩⟩
  have hi3 : i = 0 ∨ i = 1 ∨ i = 2 := by
    have : i < 3 := hi
    omega
  intro j hj
  have hj0 : j = 0 := by
    have : j < 1 := hj
    omega
  subst hj0
  rw [r.cell]
  rcases hi3 with rfl | rfl | rfl <;> rfl
theorem fp_p16 (h : TxR w0 w t n kb p iv rv wv) (hN : RpN p) (hn : n ≤ 1000000000) (hK : NE K w0) : s70_p16 K (P kb 0) (P t 0) w := by
  unfold s70_p16 s70_p16_d
  have kd : Kp Emp w (drw w) := kp_drw
  generalize drw w = w1 at kd ⊢
  have h1 := h.emp kd
  refine ⟨fun w' => Row w' kb 46 (p.cells iv rv wv), h1.kr, ?_⟩
  refine fdp ⟨_, fun w' hJ => ld1_r (v := I p.oc) hJ rfl ⟨rfl, rfl⟩, ?_⟩
  refine fdp ?_
  refine ⟨by decide, ?_⟩
  refine fdp ⟨_, fun w' hJ => ld1_r (v := I p.fr) hJ rfl ⟨rfl, rfl⟩, ?_⟩
  have e1 : (⟨#[111, 99, 99, 117, 112, 97, 110, 99, 121]⟩ : ByteArray).size = 9 := rfl
  have e2 : (⟨#[101, 110, 116, 101, 114, 101, 100]⟩ : ByteArray).size = 7 := rfl
  have e3 : (⟨#[102, 114, 101, 101]⟩ : ByteArray).size = 4 := rfl
  refine field_ok h1 (by omega) (n63w hN.oc) fun w2 h2 => ⟨h2.kr, ?_⟩
  refine ids_ok (xs := [p.e0, p.e1, p.e2]) h2 (ent_ar h2.kr) (by simp) (fun x hx => ?_) (by omega) fun w3 h3 => ⟨h3.kr, ?_⟩
  · simp only [List.mem_cons, List.not_mem_nil, or_false] at hx
    rcases hx with rfl | rfl | rfl
    · exact hN.e0
    · exact hN.e1
    · exact hN.e2
  have e4 : [p.e0, p.e1, p.e2].length = 3 := rfl
  exact field_ok h3 (by omega) (n63w hN.fr) fun w4 h4 => fp_end h4 hK
set_option maxHeartbeats 1000000 in
theorem fp_p24 (hg : Gl w0) (h : TxR w0 w t n kb p iv rv wv) (hN : RpN p) (hc : p.cnt.length = 10) (hn : n ≤ 1000000000) (hK : NE K w0) : s70_p24 K (P kb 0) (P t 0) w := by
  unfold s70_p24 s70_p23
  refine loop_n 9 (fun i l' w' => l' = [P kb 0, P t 0, I ((i + 1 : Nat) : Int)] ∧ TxR w0 w' t (n + 130 * i) kb p iv rv wv) ⟨rfl, by simpa using h⟩ ?_ ?_
  · rintro i l' w1 hi ⟨rfl, h1⟩ B hB
    rw [s70_p23_Fe]
    unfold s70_p22
    have e1 : decide (((i + 1 : Nat) : Int) < 10) = true := decide_eq_true (by omega)
    simp only [e_lss, e1, e_ift]
    unfold s70_p21 s70_p21_d
    have kd : Kp Emp w1 (drw w1) := kp_drw
    generalize drw w1 = w2 at kd ⊢
    have h2 := h1.emp kd
    refine ⟨fun w' => Row w' kb 46 (p.cells iv rv wv), h2.kr, ?_⟩
    have hx : N63 (p.cnt[i + 1]?.getD 0) := by
      rw [List.getElem?_eq_getElem (by omega)]
      exact hN.cnt _ (List.getElem_mem _)
    refine fdp (ixp (i := i + 1) (by omega) ⟨_, fun w' hJ => ld1_r (v := I (p.cnt[i + 1]?.getD 0)) hJ (cnt_get hc (by omega)) ⟨rfl, rfl⟩, ?_⟩)
    refine statusName_ok (hg.kp' h2.k) ⟨by omega, by omega⟩ fun w3 sn hk3 s1 s2 => ?_
    have h3 := h2.emp hk3
    refine ⟨h3.kr, ?_⟩
    refine field_ok h3 (by omega) (n63w hx) fun w4 h4 => ?_
    unfold s70_p20
    simp only [e_add]
    rw [wrap64_id (by omega) (by omega), show ((i + 1 : Nat) : Int) + 1 = ((i + 1 + 1 : Nat) : Int) by omega]
    exact hB _ _ ⟨rfl, h4.mono (by omega)⟩
  · rintro l' w1 ⟨rfl, h1⟩ B
    rw [s70_p23_Fe]
    unfold s70_p22
    have e1 : decide (((9 + 1 : Nat) : Int) < 10) = false := by decide
    simp only [e_lss, e1, e_iff]
    exact fp_end h1 hK
theorem fp_p12 (h : TxR w0 w t n kb p iv rv wv) (hN : RpN p) (hn : n ≤ 2000000000) (hK : NE K w0) : s70_p12 K (P kb 0) (P t 0) w := by
  unfold s70_p12
  refine fdp (ld1_r (v := U8 p.op) h.kr rfl ?_)
  have e1 : (⟨#[110, 101, 120, 116]⟩ : ByteArray).size = 4 := rfl
  cases h17 : (p.op == 17) with
  | true =>
    simp only [e_eql, h17, e_ift]
    refine fdp (ld1_r (v := I p.nx) h.kr rfl ?_)
    exact field_ok h (by omega) (n63w hN.nx) fun w2 h2 => fp_end h2 hK
  | false =>
    simp only [e_eql, h17, e_iff]
    exact fp_end h hK
set_option maxHeartbeats 1000000 in
theorem fp_p15 (hg : Gl w0) (h : TxR w0 w t n kb p iv rv wv) (hN : RpN p) (hr : Ro F w0 rv p.recs) (hF : ∀ b, F b → b < w0.heap.size) (hn : n ≤ 100000000) (hK : NE K w0) : s70_p15 K (P kb 0) (P t 0) w := by
  unfold s70_p15
  obtain ⟨its, e1, a1, a2⟩ := hr
  have hil : its.length = p.recs.length := by rw [← e1, List.length_map]
  have hrl := hN.rl
  refine fdp (ld1_r (v := rv) h.kr rfl ?_)
  refine a1.ln ?_
  unfold s70_p14
  refine loop_n its.length (fun i l' w' => l' = [P kb 0, P t 0, rv, I (its.length : Nat), I (i : Nat)] ∧ TxR w0 w' t (n + 1400 * i) kb p iv rv wv) ⟨rfl, by simpa using h⟩ ?_ ?_
  · rintro i l' w1 hi ⟨rfl, h1⟩ B hB
    rw [s70_p14_Fe]
    unfold s70_p13
    simp only [dlt hi, e_lss, e_ift]
    have hm : its[i].1 ∈ p.recs := by rw [← e1]; exact List.mem_map_of_mem (List.getElem_mem hi)
    have al := a2 its[i] (List.getElem_mem hi)
    refine each_r rfl (a1.kp' h1.k) hi (rC_len _) (rC_sc al.scal) fun w2 r2 hk2 hz2 => ?_
    have hrn := hN.recs _ hm
    generalize its[i] = x at al r2 hrn ⊢
    obtain ⟨r, lv⟩ := x
    refine ldn_r r2 (show 0 + 7 ≤ 7 by decide) ?_
    refine record_ok hg (h1.emp hk2) hrn al hF (by omega) fun w3 h3 => ?_
    simp only [e_add]
    rw [inc i (by omega)]
    exact hB _ _ ⟨rfl, h3.mono (by omega)⟩
  · rintro l' w1 ⟨rfl, h1⟩ B
    rw [s70_p14_Fe]
    unfold s70_p13
    simp only [dnlt, e_lss, e_iff]
    exact fp_p12 h1 hN (by omega) hK
section
set_option maxHeartbeats 2000000 in
theorem fp_p11 (h : TxR w0 w t n kb p iv rv wv) (hN : RpN p) (ha : Ar isC2 2 F w0 iv p.iss) (hn : n ≤ 100000000) (hK : NE K w0) : s70_p11 K (P kb 0) (P t 0) w := by
  unfold s70_p11
  have hil := hN.il
  refine fdp (ld1_r (v := I p.now) h.kr rfl ?_)
  have e1 : (⟨#[110, 111, 119]⟩ : ByteArray).size = 3 := rfl
  refine field_ok h (by omega) (n63w hN.now) fun w1 h1 => ?_
  refine fdp (ld1_r (v := iv) h1.kr rfl ?_)
  refine ha.ln ?_
  unfold s70_p10
  refine loop_n p.iss.length (fun i l' w' => l' = [P kb 0, P t 0, iv, I (p.iss.length : Nat), I (i : Nat)] ∧ TxR w0 w' t (n + 30 + 60 * i) kb p iv rv wv) ⟨rfl, h1.mono (by omega)⟩ ?_ ?_
  · rintro i l' w2 hi ⟨rfl, h2⟩ B hB
    rw [s70_p10_Fe]
    unfold s70_p9
    simp only [dlt hi, e_lss, e_ift]
    unfold s70_p8
    refine each_r rfl (ha.kp' h2.k) hi (isC2_len _) rfl fun w3 r3 hk3 hz3 => ?_
    have hx := hN.iss _ (List.getElem_mem hi)
    generalize p.iss[i] = x at r3 hx
    unfold s70_p7 s70_p7_d
    have kd : Kp Emp w3 (drw w3) := kp_drw
    generalize drw w3 = w4 at kd ⊢
    have h4 := (h2.emp hk3).emp kd
    have r4 := kd.row' r3
    refine ⟨fun w' => Kp Emp w4 w', Kp.refl _ _, ?_⟩
    refine fdp ⟨_, fun w' hJ => ld1_r (v := I x.id) (hJ.row' r4) rfl ⟨rfl, rfl⟩, ?_⟩
    refine fdp ⟨_, fun w' hJ => ld1_r (v := I x.slot) (hJ.row' r4) rfl ⟨rfl, rfl⟩, ?_⟩
    have dg : ∀ {y : Int} {w5 : World} {X : Value → World → Prop}, (y = x.id ∨ y = x.slot) → (∀ w6 d, Kp Emp w5 w6 → d.size ≤ 20 → X (.string d) w6) → cl Tryz.prog 56 #[I y] X w5 := fun hy hX => decimal_ok (by
      rcases hy with rfl | rfl
      · exact n63w hx.1
      · exact n63w hx.2) hX
    have e2 : (⟨#[105, 115, 115, 117, 101, 100, 32]⟩ : ByteArray).size = 7 := rfl
    have e3 : (⟨#[64]⟩ : ByteArray).size = 1 := rfl
    have wd : ∀ (w5 : World) (z : ByteArray), Kp Emp w4 w5 → z.size ≤ 48 → cl Tryz.prog 91 #[P t 0, .string z] (fun t83 w => s70_p6 K B (P kb 0) (P t 0) iv (I (p.iss.length : Nat)) (I (i : Nat)) w) w5 := by
      intro w5 z hk5 hz
      refine word_ok (h4.emp hk5) (by omega) fun w6 h6 => ?_
      unfold s70_p6
      simp only [e_add]
      rw [inc i (by omega)]
      exact hB _ _ ⟨rfl, (h6.mono (by omega)).low (by omega)⟩
    repeat' first
      | exact wd _ _ (ka.trans kb2) (by omega)
      | exact Kp.refl _ _
      | exact ka
      | exact ka.trans kb2
      | refine cat_r (by omega) fun z hz => ?_
      | refine And.intro ?_ ?_
      | refine dg (by exact .inl rfl) fun wa xa ka ha2 => ?_
      | refine dg (by exact .inr rfl) fun wb xb kb2 hb2 => ?_
  · rintro l' w2 ⟨rfl, h2⟩ B
    rw [s70_p10_Fe]
    unfold s70_p9
    simp only [dnlt, e_lss, e_iff]
    exact fp_p5 h2 hN (by omega) hK
end
end
end Go.Proofs.Qxb6500896aGreatDoor
