import Derived.Test.Qxb6500896aGreatDoorT16
namespace Go.Proofs.Qxb6500896aGreatDoor
open Go.Sh Go.RowKit
set_option linter.unusedVariables false
set_option linter.unusedSimpArgs false

section
variable {w w' w0 : World} {K : Value → World → Prop} {v : Value} {xs : List Int} {s : ByteArray} {t lo n kb : Nat} {T : TypeId} {l : List Value} {F : Nat → Prop} {lv : Value} {xr : List (Nat × TypeId × List Value)} {r : Rec}
theorem rec_p1 (h : Tx w0 w t lo n kb 66 (rC (r, lv)) xr) (hr : RN r) (ha : Ar lC 2 F w0 lv r.legs) (hF : ∀ b, F b → b < w0.heap.size) (hn : n ≤ 7500000000) (hK : ∀ w', Tx w0 w' t lo (n + 1002) kb 66 (rC (r, lv)) xr → K (P t 0) w') : s103_p1 K (P t 0) (P kb 0) w := by
  unfold s103_p1
  refine fdp (ld1_r (v := lv) h.kr rfl ?_)
  have e1 : (⟨#[125]⟩ : ByteArray).size = 1 := rfl
  refine legs_ok h (ha.kp' h.k) hr.ll hF hr.lg (by omega) fun w1 h1 => ?_
  refine word_ok h1 (by omega) fun w2 h2 => ?_
  exact hK w2 ((h2.mono (by omega)).low (by omega))
/-- a row of the table in words -/
theorem record_ok (hg : Gl w0) (h : Tx w0 w t lo n kb T l xr) (hr : RN r) (ha : Ar lC 2 F w0 lv r.legs) (hF : ∀ b, F b → b < w0.heap.size) (hn : n ≤ 7000000000) (hK : ∀ w', Tx w0 w' t lo (n + 1400) kb T l xr → K (P t 0) w') : cl Tryz.prog 103 #[P t 0, .agg (rC (r, lv)).toArray] K w := by
  apply c103
  unfold s103_p4
  refine nw_r fun w1 r1 hk1 hz1 => ?_
  replace r1 : Row w1 w.heap.size 66 (rC (r, lv)) := r1
  unfold s103_p3 s103_p3_d
  have kd : Kp Emp w1 (drw w1) := kp_drw
  generalize drw w1 = w2 at kd ⊢
  have g := h.emp (hk1.trans kd)
  have h2 : Tx w0 w2 t lo n w.heap.size 66 (rC (r, lv)) ((kb, T, l) :: xr) := ⟨g.ex, g.t0, g.k, kd.row' r1, ⟨by decide, by decide⟩, fun x hx => by
    rcases List.mem_cons.1 hx with q | q
    · subst q; exact ⟨g.kr, g.kt⟩
    · exact g.kx x q⟩
  have back : ∀ {w' : World} {m : Nat}, Tx w0 w' t lo m w.heap.size 66 (rC (r, lv)) ((kb, T, l) :: xr) → m ≤ n + 1400 → K (P t 0) w' := fun {w' m} g hm => by
    have hh := g.kx (kb, T, l) List.mem_cons_self
    exact hK w' ((⟨g.ex, g.t0, g.k, hh.1, hh.2, fun x hx => g.kx x (List.mem_cons_of_mem _ hx)⟩ : Tx w0 w' t lo m kb T l xr).mono hm)
  refine ⟨fun w' => Row w' w.heap.size 66 (rC (r, lv)), h2.kr, ?_⟩
  refine fdp ⟨_, fun w' hJ => ld1_r (v := I r.id) hJ rfl ⟨rfl, rfl⟩, ?_⟩
  refine fdp ⟨_, fun w' hJ => ld1_r (v := I r.st) hJ rfl ⟨rfl, rfl⟩, ?_⟩
  refine fdp ⟨_, fun w' hJ => ld1_r (v := I r.cl) hJ rfl ⟨rfl, rfl⟩, ?_⟩
  refine fdp ⟨_, fun w' hJ => ld1_r (v := I r.sz) hJ rfl ⟨rfl, rfl⟩, ?_⟩
  have e1 : (⟨#[123]⟩ : ByteArray).size = 1 := rfl
  have e2 : (⟨#[105, 100]⟩ : ByteArray).size = 2 := rfl
  have e3 : (⟨#[99, 108, 97, 115, 115]⟩ : ByteArray).size = 5 := rfl
  have e4 : (⟨#[115, 105, 122, 101]⟩ : ByteArray).size = 4 := rfl
  refine word_ok h2 (by omega) fun w3 h3 => ⟨h3.kr, ?_⟩
  refine field_ok (h3.low (show lo ≤ _ by omega)) (by omega) (n63w hr.id) fun w4 h4 => ⟨h4.kr, ?_⟩
  refine statusName_ok (hg.kp' h4.k) (n63w hr.st) fun w5 sn hk5 s1 s2 => ?_
  have h5 := h4.emp hk5
  refine ⟨h5.kr, ?_⟩
  refine word_ok h5 (by omega) fun w6 h6 => ⟨h6.kr, ?_⟩
  refine field_ok (h6.low (show lo ≤ _ by omega)) (by omega) (n63w hr.cl) fun w7 h7 => ⟨h7.kr, ?_⟩
  refine field_ok h7 (by omega) (n63w hr.sz) fun w8 h8 => ?_
  have h8' := h8.mono (show _ ≤ n + 250 by omega)
  unfold s103_p2
  refine fdp (ld1_r (v := I r.ln) h8'.kr rfl ?_)
  have e5 : (⟨#[108, 105, 110, 101]⟩ : ByteArray).size = 4 := rfl
  have e6 : (⟨#[101, 120, 112, 105, 114, 121]⟩ : ByteArray).size = 6 := rfl
  have hln := hr.ln
  unfold N63 at hln
  by_cases h0 : (0 : Int) < r.ln
  · simp only [h0, decide_true, e_gtr, e_ift]
    refine fdp (ld1_r (v := I r.ln) h8'.kr rfl ?_)
    simp only [e_sub]
    rw [wrap64_id (by omega) (by omega)]
    refine field_ok h8' (by omega) ⟨by omega, by omega⟩ fun w9 h9 => ?_
    exact rec_p1 h9 hr ha hF (by omega) fun w10 h10 => back h10 (by omega)
  · simp only [h0, decide_false, e_gtr, e_iff]
    refine fdp (ld1_r (v := I r.ex) h8'.kr rfl ?_)
    refine field_ok h8' (by omega) (n63w hr.ex) fun w9 h9 => ?_
    exact rec_p1 h9 hr ha hF (by omega) fun w10 h10 => back h10 (by omega)
end
end Go.Proofs.Qxb6500896aGreatDoor
