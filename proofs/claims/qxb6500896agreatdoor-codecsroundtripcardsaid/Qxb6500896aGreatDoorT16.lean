import Derived.Test.Qxb6500896aGreatDoorT6
import Derived.Test.Qxb6500896aGreatDoorR3
import Derived.Test.Qxb6500896aGreatDoorK72
import Derived.Test.Qxb6500896aGreatDoorGw
namespace Go.Proofs.Qxb6500896aGreatDoor
open Go.Sh Go.RowKit
set_option linter.unusedVariables false
set_option linter.unusedSimpArgs false

/-- the two tables of names -/
structure Gl (w : World) : Prop where
  c : ∀ i, i < 23 → ∃ s : ByteArray, Cells w 1 i [.string s] ∧ 1 ≤ s.size ∧ s.size ≤ 100
  s : ∀ i, i < 10 → ∃ s : ByteArray, Cells w 2 i [.string s] ∧ 1 ≤ s.size ∧ s.size ≤ 100
theorem Gl.kp' {w w' : World} (g : Gl w) (hk : Kp Emp w w') : Gl w' :=
  ⟨fun i hi => by obtain ⟨s, h, h2⟩ := g.c i hi; exact ⟨s, h.kp' hk, h2⟩, fun i hi => by obtain ⟨s, h, h2⟩ := g.s i hi; exact ⟨s, h.kp' hk, h2⟩⟩
section
variable {w w' w0 : World} {K : Value → World → Prop} {v : Value} {ob : Option Nat} {xs : List Int} {s : ByteArray} {t lo n kb : Nat} {T : TypeId} {l : List Value} {F : Nat → Prop} {lv : Value} {xr : List (Nat × TypeId × List Value)} {r : Rec}
theorem cat_r2 {x y : ByteArray} {X : Value → World → Prop} (h : x.size + y.size ≤ 9000000000) (hX : ∀ z : ByteArray, z.size = x.size + y.size → X (.string z) w) : boS .add (.string x) (.string y) X w :=
  ⟨by omega, hX _ ByteArray.size_append⟩
theorem nameA {len b : Nat} {c : Int} {X : Value → World → Prop} (hg : ∀ i, i < len → ∃ s : ByteArray, Cells w b i [.string s] ∧ 1 ≤ s.size ∧ s.size ≤ 100) (h0 : 0 ≤ c) (h1 : c < (len : Nat)) (hX : ∀ s : ByteArray, 1 ≤ s.size → s.size ≤ 100 → X (.string s) w) :
    ixa len 1 (.pointer (some ⟨b, 0, none⟩)) (I c) (fun p w => ld1 p (fun t w => X t w) w) w := by
  refine ⟨⟨h0, h1⟩, ?_⟩
  rw [add_mk, Nat.zero_add, Nat.mul_one]
  obtain ⟨s, h, h2, h3⟩ := hg c.toNat (by omega)
  exact h.ld0 rfl (hX s h2 h3)
theorem codeName_ok {c : Int} (g : Gl w) (hc : -9223372036854775808 ≤ c ∧ c ≤ 9223372036854775807) (hK : ∀ w' (s : ByteArray), Kp Emp w w' → 1 ≤ s.size → s.size ≤ 100 → K (.string s) w') : cl Tryz.prog 59 #[I c] K w := by
  apply c59
  unfold s59_p1
  have e1 : (⟨#[99, 111, 100, 101, 32]⟩ : ByteArray).size = 5 := rfl
  have bad : cl Tryz.prog 56 #[I c] (fun t10 w => boS .add (.string ⟨#[99, 111, 100, 101, 32]⟩) t10 (fun t11 w => K t11 w) w) w := by
    refine decimal_ok hc fun w1 d hk1 hd => ?_
    refine cat_r (by omega) fun z hz => ?_
    exact hK w1 z hk1 (by omega) (by omega)
  simp only [e_lss]
  by_cases h0 : c < 0
  · simp only [h0, decide_true, e_gdtf, e_pkt, e_ift]
    exact bad
  · simp only [h0, decide_false, e_gdff, e_geq, e_pkf]
    by_cases h1 : (23 : Int) ≤ c
    · simp only [h1, decide_true, e_ift]
      exact bad
    · simp only [h1, decide_false, e_iff]
      exact nameA (len := 23) g.c (by omega) (by omega) fun s h1 h2 => hK w s (Kp.refl _ _) h1 h2
theorem statusName_ok {c : Int} (g : Gl w) (hc : -9223372036854775808 ≤ c ∧ c ≤ 9223372036854775807) (hK : ∀ w' (s : ByteArray), Kp Emp w w' → 1 ≤ s.size → s.size ≤ 100 → K (.string s) w') : cl Tryz.prog 102 #[I c] K w := by
  apply c102
  unfold s102_p1
  have e1 : (⟨#[115, 116, 97, 116, 117, 115, 32]⟩ : ByteArray).size = 7 := rfl
  have bad : cl Tryz.prog 56 #[I c] (fun t10 w => boS .add (.string ⟨#[115, 116, 97, 116, 117, 115, 32]⟩) t10 (fun t11 w => K t11 w) w) w := by
    refine decimal_ok hc fun w1 d hk1 hd => ?_
    refine cat_r (by omega) fun z hz => ?_
    exact hK w1 z hk1 (by omega) (by omega)
  simp only [e_lss]
  by_cases h0 : c < 0
  · simp only [h0, decide_true, e_gdtf, e_pkt, e_ift]
    exact bad
  · simp only [h0, decide_false, e_gdff, e_geq, e_pkf]
    by_cases h1 : (10 : Int) ≤ c
    · simp only [h1, decide_true, e_ift]
      exact bad
    · simp only [h1, decide_false, e_iff]
      exact nameA (len := 10) g.s (by omega) (by omega) fun s h1 h2 => hK w s (Kp.refl _ _) h1 h2
/-- a list of numbers in words -/
theorem ids_ok {nm : ByteArray} (h : Tx w0 w t lo n kb T l xr) (ha : Ar iC 1 F w lv xs) (hl : xs.length ≤ 1000000) (hN : ∀ x ∈ xs, N63 x) (hn : n + nm.size ≤ 8000000000) (hK : ∀ w', Tx w0 w' t lo (n + nm.size + 21 * xs.length + 4) kb T l xr → K (P t 0) w') : cl Tryz.prog 104 #[P t 0, .string nm, lv] K w := by
  apply c104
  unfold s104_p5
  refine ha.ln ?_
  unfold s104_p4
  refine loop_n xs.length (fun i l' w' => ∃ s : ByteArray, l' = [P t 0, .string nm, .string s, lv, I (xs.length : Nat), I (i : Nat)] ∧ s.size ≤ 1 + 21 * i ∧ Tx w0 w' t lo n kb T l xr ∧ Kp Emp w w') ⟨_, rfl, by decide, h, Kp.refl _ _⟩ ?_ ?_
  · rintro i l' w1 hi ⟨s, rfl, hs, h1, hk1⟩ B hB
    rw [s104_p4_Fe]
    unfold s104_p3
    simp only [dlt hi, e_lss, e_ift]
    refine (ha.kp' hk1).ix hi fun b o hb hcc => ?_
    refine hcc.ld0 rfl ?_
    have hx := hN _ (List.getElem_mem hi)
    generalize xs[i] = x at hx
    have p2 : ∀ (w2 : World) (z : ByteArray), Kp Emp w1 w2 → z.size ≤ 1 + 21 * (i + 1) → s104_p2 K B (P t 0) (.string nm) (.string z) lv (I (xs.length : Nat)) (I (i : Nat)) w2 := by
      intro w2 z hk2 hz
      unfold s104_p2
      simp only [e_add]
      rw [inc i (by omega)]
      exact hB _ _ ⟨z, rfl, hz, h1.emp hk2, hk1.trans hk2⟩
    have e32 : (⟨#[32]⟩ : ByteArray).size = 1 := rfl
    by_cases h0 : (0 : Int) < ((i : Nat) : Int)
    · simp only [h0, decide_true, e_gtr, e_ift]
      refine cat_r (by omega) fun z hz => ?_
      refine decimal_ok (n63w hx) fun w2 d hk2 hd => ?_
      refine cat_r (by omega) fun z2 hz2 => ?_
      exact p2 w2 z2 hk2 (by omega)
    · simp only [h0, decide_false, e_gtr, e_iff]
      refine decimal_ok (n63w hx) fun w2 d hk2 hd => ?_
      refine cat_r (by omega) fun z2 hz2 => ?_
      exact p2 w2 z2 hk2 (by omega)
  · rintro l' w1 ⟨s, rfl, hs, h1, hk1⟩ B
    rw [s104_p4_Fe]
    unfold s104_p3
    simp only [dnlt, e_lss, e_iff]
    unfold s104_p1
    have e1 : (⟨#[61]⟩ : ByteArray).size = 1 := rfl
    have e2 : (⟨#[93]⟩ : ByteArray).size = 1 := rfl
    refine cat_r2 (by omega) fun z hz => ?_
    refine cat_r2 (by omega) fun z2 hz2 => ?_
    refine cat_r2 (by omega) fun z3 hz3 => ?_
    refine word_ok h1 (by omega) fun w2 h2 => ?_
    exact hK w2 ((h2.mono (by omega)).low (by omega))
end
end Go.Proofs.Qxb6500896aGreatDoor
