import Derived.Test.Qxb6500896aGreatDoorT4
namespace Go.Proofs.Qxb6500896aGreatDoor
open Go.Sh Go.RowKit
set_option linter.unusedVariables false
set_option linter.unusedSimpArgs false

section
variable {w w' w0 : World} {K : Value → World → Prop} {t lo n kb : Nat} {F : Nat → Prop} {lv : Value} {q : Rq} {xr : List (Nat × TypeId × List Value)}
/-- the end of a line -/
theorem fr_end {T : TypeId} {l : List Value} (h : Tx w0 w t lo n kb T l xr) (hlo : 1 ≤ lo) (hn : n ≤ 100000) (hK : ∀ w' (s : ByteArray), Kp Emp w0 w' → 1 ≤ s.size → s.size ≤ 100000 → K (.string s) w') : s69_p1 K (P t 0) w := by
  unfold s69_p1
  exact string_ok h hlo fun s h1 h2 => hK w s h.k h1 (by omega)
theorem n63w {x : Int} (h : N63 x) : -9223372036854775808 ≤ x ∧ x ≤ 9223372036854775807 := ⟨by have := h.1; omega, h.2⟩
theorem fr5 (h : Tx w0 w t lo n kb 49 (q.cells lv) xr) (hN : XprN q) (hlo : 1 ≤ lo) (hn : n ≤ 1000) (hK : ∀ w' (s : ByteArray), Kp Emp w0 w' → 1 ≤ s.size → s.size ≤ 100000 → K (.string s) w') : s69_p5 K (P kb 0) (P t 0) w := by
  unfold s69_p5
  refine fdp (ld1_r (v := I q.id) h.kr rfl ?_)
  have e1 : (⟨#[105, 100]⟩ : ByteArray).size = 2 := rfl
  exact field_ok h (by omega) (n63w hN.id) fun w1 h1 => fr_end h1 hlo (by omega) hK
theorem fr8 (h : Tx w0 w t lo n kb 49 (q.cells lv) xr) (hN : XprN q) (hlo : 1 ≤ lo) (hn : n ≤ 1000) (hK : ∀ w' (s : ByteArray), Kp Emp w0 w' → 1 ≤ s.size → s.size ≤ 100000 → K (.string s) w') : s69_p8 K (P kb 0) (P t 0) w := by
  unfold s69_p8
  refine fdp (ld1_r (v := I q.at') h.kr rfl ?_)
  have e1 : (⟨#[97, 116, 116, 114, 97, 99, 116, 105, 111, 110]⟩ : ByteArray).size = 10 := rfl
  exact field_ok h (by omega) (n63w hN.at') fun w1 h1 => fr_end h1 hlo (by omega) hK
theorem fr6 (h : Tx w0 w t lo n kb 49 (q.cells lv) xr) (hN : XprN q) (hlo : 1 ≤ lo) (hn : n ≤ 1000) (hK : ∀ w' (s : ByteArray), Kp Emp w0 w' → 1 ≤ s.size → s.size ≤ 100000 → K (.string s) w') : s69_p6 K (P kb 0) (P t 0) w := by
  unfold s69_p6 s69_p6_d
  have kd : Kp Emp w (drw w) := kp_drw
  generalize drw w = w1 at kd ⊢
  have h1 := h.emp kd
  refine ⟨fun w' => Row w' kb 49 (q.cells lv), h1.kr, ?_⟩
  refine fdp ⟨_, fun w' hJ => ld1_r (v := I q.id) hJ rfl ⟨rfl, rfl⟩, ?_⟩
  refine fdp ⟨_, fun w' hJ => ld1_r (v := I q.li) hJ rfl ⟨rfl, rfl⟩, ?_⟩
  have e1 : (⟨#[102, 114, 111, 109]⟩ : ByteArray).size = 4 := rfl
  have e2 : (⟨#[108, 105, 109, 105, 116]⟩ : ByteArray).size = 5 := rfl
  refine field_ok h1 (by omega) (n63w hN.id) fun w2 h2 => ⟨h2.kr, ?_⟩
  exact field_ok h2 (by omega) (n63w hN.li) fun w3 h3 => fr_end h3 hlo (by omega) hK
theorem fr7 (h : Tx w0 w t lo n kb 49 (q.cells lv) xr) (hN : XprN q) (hlo : 1 ≤ lo) (hn : n ≤ 1000) (hK : ∀ w' (s : ByteArray), Kp Emp w0 w' → 1 ≤ s.size → s.size ≤ 100000 → K (.string s) w') : s69_p7 K (P kb 0) (P t 0) w := by
  unfold s69_p7 s69_p7_d
  have kd : Kp Emp w (drw w) := kp_drw
  generalize drw w = w1 at kd ⊢
  have h1 := h.emp kd
  refine ⟨fun w' => Row w' kb 49 (q.cells lv), h1.kr, ?_⟩
  refine fdp ⟨_, fun w' hJ => ld1_r (v := I q.at') hJ rfl ⟨rfl, rfl⟩, ?_⟩
  refine fdp ⟨_, fun w' hJ => ld1_r (v := I q.sl) hJ rfl ⟨rfl, rfl⟩, ?_⟩
  have e1 : (⟨#[97, 116, 116, 114, 97, 99, 116, 105, 111, 110]⟩ : ByteArray).size = 10 := rfl
  have e2 : (⟨#[115, 108, 111, 116]⟩ : ByteArray).size = 4 := rfl
  refine field_ok h1 (by omega) (n63w hN.at') fun w2 h2 => ⟨h2.kr, ?_⟩
  exact field_ok h2 (by omega) (n63w hN.sl) fun w3 h3 => fr_end h3 hlo (by omega) hK
theorem fr4 (h : Tx w0 w t lo n kb 49 (q.cells lv) xr) (hN : XprN q) (hlo : 1 ≤ lo) (hn : n ≤ 1000) (hK : ∀ w' (s : ByteArray), Kp Emp w0 w' → 1 ≤ s.size → s.size ≤ 100000 → K (.string s) w') : s69_p4 K (P kb 0) (P t 0) w := by
  unfold s69_p4 s69_p4_d
  have kd : Kp Emp w (drw w) := kp_drw
  generalize drw w = w1 at kd ⊢
  have h1 := h.emp kd
  refine ⟨fun w' => Row w' kb 49 (q.cells lv), h1.kr, ?_⟩
  refine fdp ⟨_, fun w' hJ => ld1_r (v := I q.at') hJ rfl ⟨rfl, rfl⟩, ?_⟩
  refine fdp ⟨_, fun w' hJ => ld1_r (v := I q.cl) hJ rfl ⟨rfl, rfl⟩, ?_⟩
  refine fdp ⟨_, fun w' hJ => ld1_r (v := I q.sz) hJ rfl ⟨rfl, rfl⟩, ?_⟩
  have e1 : (⟨#[97, 116, 116, 114, 97, 99, 116, 105, 111, 110]⟩ : ByteArray).size = 10 := rfl
  have e2 : (⟨#[99, 108, 97, 115, 115]⟩ : ByteArray).size = 5 := rfl
  have e3 : (⟨#[115, 105, 122, 101]⟩ : ByteArray).size = 4 := rfl
  refine field_ok h1 (by omega) (n63w hN.at') fun w2 h2 => ⟨h2.kr, ?_⟩
  refine field_ok h2 (by omega) (n63w hN.cl) fun w3 h3 => ⟨h3.kr, ?_⟩
  exact field_ok h3 (by omega) (n63w hN.sz) fun w4 h4 => fr_end h4 hlo (by omega) hK
theorem fr9 (h : Tx w0 w t lo n kb 49 (q.cells lv) xr) (hN : XprN q) (hlo : 1 ≤ lo) (hn : n ≤ 1000) (hK : ∀ w' (s : ByteArray), Kp Emp w0 w' → 1 ≤ s.size → s.size ≤ 100000 → K (.string s) w') : s69_p9 K (P kb 0) (P t 0) w := by
  unfold s69_p9 s69_p9_d
  have kd : Kp Emp w (drw w) := kp_drw
  generalize drw w = w1 at kd ⊢
  have h1 := h.emp kd
  refine ⟨fun w' => Row w' kb 49 (q.cells lv), h1.kr, ?_⟩
  refine fdp ⟨_, fun w' hJ => ld1_r (v := I q.at') hJ rfl ⟨rfl, rfl⟩, ?_⟩
  refine fdp ⟨_, fun w' hJ => ld1_r (v := I q.cl) hJ rfl ⟨rfl, rfl⟩, ?_⟩
  refine fdp ⟨_, fun w' hJ => ld1_r (v := I q.sz) hJ rfl ⟨rfl, rfl⟩, ?_⟩
  refine fdp ⟨_, fun w' hJ => ld1_r (v := I q.sl) hJ rfl ⟨rfl, rfl⟩, ?_⟩
  have e1 : (⟨#[97, 116, 116, 114, 97, 99, 116, 105, 111, 110]⟩ : ByteArray).size = 10 := rfl
  have e2 : (⟨#[99, 108, 97, 115, 115]⟩ : ByteArray).size = 5 := rfl
  have e3 : (⟨#[115, 105, 122, 101]⟩ : ByteArray).size = 4 := rfl
  have e4 : (⟨#[102, 114, 111, 109]⟩ : ByteArray).size = 4 := rfl
  refine field_ok h1 (by omega) (n63w hN.at') fun w2 h2 => ⟨h2.kr, ?_⟩
  refine field_ok h2 (by omega) (n63w hN.cl) fun w3 h3 => ⟨h3.kr, ?_⟩
  refine field_ok h3 (by omega) (n63w hN.sz) fun w4 h4 => ⟨h4.kr, ?_⟩
  exact field_ok h4 (by omega) (n63w hN.sl) fun w5 h5 => fr_end h5 hlo (by omega) hK
end
end Go.Proofs.Qxb6500896aGreatDoor
