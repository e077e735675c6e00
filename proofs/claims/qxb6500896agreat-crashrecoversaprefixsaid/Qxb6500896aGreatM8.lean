import Derived.Test.Qxb6500896aGreatM7
namespace Go.Proofs.Qxb6500896aGreat
open Go.Sh Go.RowKit
set_option linter.unusedVariables false
set_option linter.unusedSimpArgs false

/-- how far a number went, as the model says it -/
def tookM (c : Nat × Nat × Nat) : Int := if c.2.2 = 0 then ((c.2.1 : Nat) : Int) else if c.2.2 = 1 then 0 else -1
def valM (c : Nat × Nat × Nat) : Int := if c.2.2 = 0 then ((c.1 : Nat) : Int) else 0
/-- all numbers of a text -/
def numsF : Nat → List Int → Option (List Int)
  | _, [] => some []
  | 0, _ :: _ => none
  | f + 1, b :: bs => if (scan (b :: bs)).2.2 = 0 then (numsF f ((b :: bs).drop (scan (b :: bs)).2.1)).map ((((scan (b :: bs)).1 : Nat) : Int) :: ·) else none
def nmL (bs : List Int) : Option (List Int) := numsF bs.length bs
theorem scanG_b : ∀ {f i a : Nat} {bs : List Int}, (scanG f i a bs).2.2 = 0 → i < (scanG f i a bs).2.1 ∧ (scanG f i a bs).2.1 ≤ i + bs.length ∧ (scanG f i a bs).2.1 ≤ i + f
  | 0, _, _, _, h => by cases h
  | f + 1, i, a, [], h => by cases h
  | f + 1, i, a, b :: bs, h => by
    unfold scanG at h ⊢
    split at h
    · rename_i h1
      split at h
      · cases h
      · rename_i h2
        rw [if_pos h1, if_neg h2]
        simp only [List.length_cons]
        omega
    · rename_i h1
      rw [if_neg h1]
      have := scanG_b h
      rw [List.length_cons]
      omega
theorem scan_b {bs : List Int} (h : (scan bs).2.2 = 0) : 0 < (scan bs).2.1 ∧ (scan bs).2.1 ≤ bs.length := by
  have := scanG_b (f := 9) (i := 0) (a := 0) h
  unfold scan
  omega
theorem numsF_le : ∀ {f g : Nat} {bs : List Int}, bs.length ≤ f → bs.length ≤ g → numsF f bs = numsF g bs
  | 0, 0, _, _, _ => rfl
  | f, g, [], _, _ => by cases f <;> cases g <;> rfl
  | 0, g + 1, b :: bs, h, _ => by simp at h
  | f + 1, 0, b :: bs, _, h => by simp at h
  | f + 1, g + 1, b :: bs, h, h' => by
    rw [numsF, numsF]
    split
    · rename_i q
      have := scan_b q
      rw [List.length_cons] at h h' this
      rw [numsF_le (f := f) (g := g) (bs := (b :: bs).drop (scan (b :: bs)).2.1) (by rw [List.length_drop, List.length_cons]; omega) (by rw [List.length_drop, List.length_cons]; omega)]
    · rfl
theorem nmL_nil : nmL [] = some [] := rfl
theorem nmL_cons {bs : List Int} (h : bs ≠ []) : nmL bs = if (scan bs).2.2 = 0 then (nmL (bs.drop (scan bs).2.1)).map ((((scan bs).1 : Nat) : Int) :: ·) else none := by
  cases bs with
  | nil => exact absurd rfl h
  | cons b bs =>
    unfold nmL
    rw [List.length_cons, numsF]
    split
    · rename_i q
      have := scan_b q
      rw [List.length_cons] at this
      rw [numsF_le (f := bs.length) (g := ((b :: bs).drop (scan (b :: bs)).2.1).length) (by rw [List.length_drop, List.length_cons]; omega) (Nat.le_refl _)]
    · rfl
section
variable {F : Nat → Prop} {w w' : World} {v : Value} {K : Value → World → Prop} {bs : List Int}
set_option maxHeartbeats 1000000 in
theorem first_ok (h : Ar bC 1 F w v bs) (hb : By bs) (hK : K (.tuple #[I (valM (scan bs)), I (tookM (scan bs))]) w) : cl Tryz.prog 138 #[v] K w := by
  apply c138
  unfold s138_p4 s138_p3
  have hlen := h.len
  refine loop_m 9 (fun n l w' => ∃ (i a : Nat) (u : Int), n + i = 9 ∧ l = [v, I (a : Nat), I u, I (i : Nat)] ∧ w' = w ∧ i ≤ bs.length ∧ (i ≤ 8 → u = ((128 ^ i : Nat) : Int)) ∧ a < 128 ^ i ∧ scan bs = scanG n i a (bs.drop i)) ⟨0, 0, 1, rfl, rfl, rfl, Nat.zero_le _, fun _ => rfl, by decide, rfl⟩ ?_
  rintro n l w1 ⟨i, a, u, hni, rfl, rfl, hil, hu, ha, he⟩ B hB
  rw [s138_p3_Fe]
  unfold s138_p2
  cases n with
  | zero =>
    simp only [e_lss, decide_eq_false (show ¬ ((i : Nat) : Int) < 9 by omega), e_iff]
    unfold s138_p1
    rw [he] at hK
    exact hK
  | succ n =>
    have hi8 : i ≤ 8 := by omega
    simp only [e_lss, decide_eq_true (show ((i : Nat) : Int) < 9 by omega), e_ift]
    refine h.ln ?_
    by_cases hie : bs.length ≤ i
    · simp only [e_geq, decide_eq_true (show ((bs.length : Nat) : Int) ≤ ((i : Nat) : Int) by omega), e_ift]
      rw [he, List.drop_of_length_le hie] at hK
      exact hK
    · simp only [e_geq, decide_eq_false (show ¬ ((bs.length : Nat) : Int) ≤ ((i : Nat) : Int) by omega), e_iff]
      have hi : i < bs.length := by omega
      have hx := hb _ (List.getElem_mem hi)
      have hpow : (128 : Nat) ^ i ≤ 128 ^ 8 := Nat.pow_le_pow_right (by decide) hi8
      have e8 : (128 : Nat) ^ 8 = 72057594037927936 := by decide
      rw [List.drop_eq_getElem_cons hi] at he
      have eu := hu hi8
      subst eu
      refine h.ix hi fun b1 o1 _ c1 => ?_
      refine c1.ld0 (v := U8 bs[i]) rfl ?_
      simp only [e_rem]
      refine ⟨by decide, ?_⟩
      have er : bs[i].tmod 128 = ((bs[i].toNat % 128 : Nat) : Int) := by
        rw [Int.tmod_eq_emod_of_nonneg hx.1]; omega
      rw [er]
      have hd : bs[i].toNat % 128 ≤ 127 := by omega
      have hm : bs[i].toNat % 128 * 128 ^ i ≤ 127 * 128 ^ i := Nat.mul_le_mul_right _ hd
      simp only [e_cvi]
      rw [wrap64_id (by omega) (by omega)]
      simp only [e_mul]
      have em : ((bs[i].toNat % 128 : Nat) : Int) * ((128 ^ i : Nat) : Int) = ((bs[i].toNat % 128 * 128 ^ i : Nat) : Int) := by rw [Int.natCast_mul]
      rw [em, wrap64_id (by omega) (by omega)]
      simp only [e_add]
      have ea : ((a : Nat) : Int) + ((bs[i].toNat % 128 * 128 ^ i : Nat) : Int) = ((a + bs[i].toNat % 128 * 128 ^ i : Nat) : Int) := by rw [Int.natCast_add]
      rw [ea, wrap64_id (by omega) (by omega)]
      refine h.ix hi fun b2 o2 _ c2 => ?_
      refine c2.ld0 (v := U8 bs[i]) rfl ?_
      by_cases hlt : bs[i] < 128
      · simp only [e_lss, decide_eq_true hlt, e_ift]
        refine h.ix hi fun b3 o3 _ c3 => ?_
        refine c3.ld0 (v := U8 bs[i]) rfl ?_
        unfold scanG at he
        rw [if_pos hlt] at he
        by_cases h0 : bs[i] = 0
        · have e0 : (bs[i] == 0) = true := by rw [h0]; rfl
          simp only [e_eql, e0, e_gdtt, e_gtr, e_pkt]
          by_cases hip : 0 < i
          · simp only [decide_eq_true (show (0 : Int) < ((i : Nat) : Int) by omega), e_ift]
            rw [if_pos ⟨h0, hip⟩] at he
            rw [he] at hK
            exact hK
          · simp only [decide_eq_false (show ¬ (0 : Int) < ((i : Nat) : Int) by omega), e_iff]
            rw [inc i (by omega)]
            rw [if_neg (fun q => hip q.2)] at he
            rw [he] at hK
            exact hK
        · have e0 : (bs[i] == 0) = false := by rw [beq_eq_false_iff_ne]; exact h0
          simp only [e_eql, e0, e_gdft, e_pkf, e_iff]
          rw [inc i (by omega)]
          rw [if_neg (fun q => h0 q.1)] at he
          rw [he] at hK
          exact hK
      · simp only [e_lss, decide_eq_false hlt, e_iff]
        rw [inc i (by omega)]
        unfold scanG at he
        rw [if_neg hlt] at he
        refine hB n _ _ (by omega) ⟨i + 1, a + bs[i].toNat % 128 * 128 ^ i, _, by omega, rfl, rfl, by omega, fun h8 => ?_, by rw [Nat.pow_succ]; omega, he⟩
        have hp7 : (128 : Nat) ^ (i + 1) ≤ 128 ^ 8 := Nat.pow_le_pow_right (by decide) h8
        have ep : ((128 ^ i : Nat) : Int) * 128 = ((128 ^ (i + 1) : Nat) : Int) := by rw [Nat.pow_succ, Int.natCast_mul]; rfl
        rw [ep, wrap64_id (by omega) (by omega)]
/-- all numbers -/
theorem numbers_ok (h : Ar bC 1 F w v bs) (hF : ∀ b, F b → b < w.heap.size) (hb : By bs) (hl : bs.length ≤ 1000000000000) (h0 : nmL bs = none → ∀ w', Kp Emp w w' → K (.tuple #[nilS, .bool false]) w')
    (h1 : ∀ l, nmL bs = some l → ∀ w' v' b, Sl iC 1 w' 3 (some b) v' l → w.heap.size ≤ b → Kp Emp w w' → K (.tuple #[v', .bool true]) w') : cl Tryz.prog 84 #[v] K w := by
  apply c84
  unfold s84_p4
  refine Sl.empty (f := iC) (k := 1) (e := 3) fun w1 sl1 hk1 hz1 => ?_
  unfold s84_p3
  refine loop_m bs.length (fun n l w' => ∃ (rest acc : List Int) (v' u : Value) (b : Nat), n = rest.length ∧ l = [u, v'] ∧ Ar bC 1 F w' u rest ∧ By rest ∧ Sl iC 1 w' 3 (some b) v' acc ∧ w.heap.size ≤ b ∧ Kp Emp w w' ∧ acc.length + rest.length ≤ 1000000000000 ∧ nmL bs = (nmL rest).map (acc ++ ·)) ⟨bs, [], _, v, _, rfl, rfl, h.kp' hk1, hb, sl1, Nat.le_refl _, hk1, by simp; omega, by cases nmL bs <;> rfl⟩ ?_
  rintro n l w2 ⟨rest, acc, v2, u2, b2, hn, rfl, a2, hb2, sl2, hbb, k2, hll, he⟩ B hB
  rw [s84_p3_Fe]
  unfold s84_p2
  refine a2.ln ?_
  by_cases hr : rest = []
  · subst hr
    simp only [e_gtr, List.length_nil, decide_eq_false (show ¬ (0 : Int) < ((0 : Nat) : Int) by decide), e_iff]
    unfold s84_p1
    rw [nmL_nil] at he
    refine h1 acc (by rw [he]; simp) w2 v2 b2 sl2 hbb k2
  · have hpos : 0 < rest.length := List.length_pos_iff.2 hr
    simp only [e_gtr, decide_eq_true (show (0 : Int) < ((rest.length : Nat) : Int) by omega), e_ift]
    refine first_ok a2 hb2 ?_
    simp only [ex2_0, ex2_1, e_leq]
    rw [nmL_cons hr] at he
    by_cases hc : (scan rest).2.2 = 0
    · have hs := scan_b hc
      rw [if_pos hc] at he
      have et : tookM (scan rest) = (((scan rest).2.1 : Nat) : Int) := by unfold tookM; rw [if_pos hc]
      have ev : valM (scan rest) = (((scan rest).1 : Nat) : Int) := by unfold valM; rw [if_pos hc]
      rw [et, ev]
      simp only [decide_eq_false (show ¬ (((scan rest).2.1 : Nat) : Int) ≤ 0 by omega), e_iff]
      refine sl2.app iC_len rfl _ rfl (by omega) (by omega) rfl fun w3 v3 ob3 sl3 hk3 ho3 => ?_
      have s2 := k2.size
      have hb3 : ∃ b3, ob3 = some b3 ∧ w.heap.size ≤ b3 := by
        rcases ho3 with q | ⟨c, q, hc⟩
        · exact ⟨_, q, hbb⟩
        · exact ⟨c, q, by omega⟩
      obtain ⟨b3, rfl, hb3⟩ := hb3
      have a3 : Ar bC 1 F w3 u2 rest := a2.kp hk3 fun b q e => by cases e; have := hF _ q; omega
      refine a3.sub (lo := (scan rest).2.1) (hi := rest.length) hs.2 (Nat.le_refl _) (lov := some (I ((scan rest).2.1 : Nat))) (hiv := none) rfl (fun a c e => rfl) fun u3 a3' => ?_
      rw [List.take_of_length_le (by rw [List.length_drop]; exact Nat.le_refl _)] at a3'
      refine hB _ _ _ ?_ ⟨rest.drop (scan rest).2.1, acc ++ [(((scan rest).1 : Nat) : Int)], v3, u3, b3, rfl, rfl, a3', hb2.drop _, sl3, hb3, k2.then hk3 fun b hbb e => by cases e; omega, ?_, ?_⟩
      · rw [List.length_drop]; omega
      · rw [List.length_append, List.length_drop, List.length_singleton]; omega
      · rw [he]
        cases nmL (rest.drop (scan rest).2.1) with
        | none => rfl
        | some l => simp
    · rw [if_neg hc] at he
      have et : tookM (scan rest) ≤ 0 := by unfold tookM; rw [if_neg hc]; split <;> omega
      simp only [decide_eq_true et, e_ift]
      exact h0 (by rw [he]; rfl) w2 k2
end
end Go.Proofs.Qxb6500896aGreat
