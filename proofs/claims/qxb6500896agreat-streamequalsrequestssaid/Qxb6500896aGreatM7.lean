import Derived.Test.Qxb6500896aGreatM6
namespace Go.Proofs.Qxb6500896aGreat
open Go.Sh Go.RowKit
set_option linter.unusedVariables false
set_option linter.unusedSimpArgs false

/-- octets of one's own -/
abbrev OutK (w : World) (K : Value → World → Prop) (l : List Int) : Prop := ∀ w' v' b, Sl bC 1 w' 5 (some b) v' l → w.heap.size ≤ b → Kp Emp w w' → K v' w'
/-- numbers of one's own -/
abbrev NumK (w : World) (K : Value → World → Prop) (l : List Int) : Prop := ∀ w' v' b, Sl iC 1 w' 3 (some b) v' l → w.heap.size ≤ b → Kp Emp w w' → K v' w'
section
variable {F : Nat → Prop} {w w' : World} {v : Value} {K : Value → World → Prop} {op code : Int} {rs : List Int}
theorem out_1 {n : Int} {X : Value → World → Prop} (hK : ∀ w1, Sl bC 1 w1 5 (some w.heap.size) (.slice (some ⟨w.heap.size, 0, none⟩) 1 1) [n] → Kp Emp w w1 → w1.heap.size = w.heap.size + 1 → X (.slice (some ⟨w.heap.size, 0, none⟩) 1 1) w1) : bsq 5 [U8 0] 1 [(some (0, 1), U8 n)] X w := by
  refine bsq_r (l := [U8 n]) rfl fun w1 r1 hk1 hz1 => ?_
  exact hK w1 ⟨1, [], rfl, Nat.le_refl _, rfl, by rw [List.append_nil]; exact r1⟩ hk1 hz1
theorem no_ok (hc : 0 ≤ code ∧ code ≤ 255) (hK : OutK w K [code]) : cl Tryz.prog 83 #[I code] K w := by
  apply c83
  unfold s83_p1
  simp only [e_cvi]
  rw [wrap8_id hc.1 hc.2]
  exact out_1 fun w1 sl hk hz => hK w1 _ _ sl (Nat.le_refl _) hk
theorem numberF_ok : ∀ (f : Nat) {x : Nat} {w : World} {K : Value → World → Prop}, f ≤ 9 → x < 128 ^ f → 0 < f → OutK w K (uvF f x) → cl Tryz.prog 139 #[I (x : Nat)] K w
  | 0, x, w, K, _, _, h0, _ => by omega
  | f + 1, x, w, K, hf, hx, _, hK => by
    apply c139
    unfold s139_p1
    have h9 : (128 : Nat) ^ (f + 1) ≤ 128 ^ 9 := Nat.pow_le_pow_right (by decide) hf
    have e9 : (128 : Nat) ^ 9 = 9223372036854775808 := by decide
    by_cases h : x < 128
    · simp only [e_lss, decide_eq_true (show ((x : Nat) : Int) < 128 by omega), e_ift, e_cvi]
      rw [wrap8_id (by omega) (by omega)]
      rw [uvF_small h] at hK
      exact out_1 fun w1 sl hk hz => hK w1 _ _ sl (Nat.le_refl _) hk
    · simp only [e_lss, decide_eq_false (show ¬ ((x : Nat) : Int) < 128 by omega), e_iff, e_rem]
      refine ⟨by decide, ?_⟩
      have er : ((x : Nat) : Int).tmod 128 = ((x % 128 : Nat) : Int) := by
        rw [Int.tmod_eq_emod_of_nonneg (by omega)]; omega
      have eq : ((x : Nat) : Int).tdiv 128 = ((x / 128 : Nat) : Int) := by
        rw [Int.tdiv_eq_ediv_of_nonneg (by omega)]; omega
      rw [er]
      simp only [e_add, e_cvi]
      rw [wrap64_id (by omega) (by omega), wrap8_id (by omega) (by omega)]
      refine out_1 fun w1 sl1 hk1 hz1 => ?_
      simp only [e_quo]
      refine ⟨by decide, ?_⟩
      rw [eq, wrap64_id (by omega) (by omega)]
      have hf0 : 0 < f := by
        rcases Nat.eq_zero_or_pos f with q | q
        · subst q
          have : x < 128 := by simpa using hx
          omega
        · exact q
      have hx' : x / 128 < 128 ^ f := by
        rw [Nat.pow_succ] at hx
        exact Nat.div_lt_of_lt_mul (by rw [Nat.mul_comm]; exact hx)
      refine numberF_ok f (by omega) hx' hf0 fun w2 v2 b2 sl2 hb2 hk2 => ?_
      have hlen := uvF_len (f := f) (x := x / 128)
      refine Sl.app2 bC_len rfl (fun _ _ => rfl) (sl1.kp' hk2) sl2 (by simp only [List.length_singleton]; omega) (by simp only [List.length_singleton]; omega) fun w3 v3 ob3 sl3 hk3 ho3 => ?_
      have s2 := hk2.size
      have hb3 : ∃ b3, ob3 = some b3 ∧ w.heap.size ≤ b3 := by
        rcases ho3 with q | ⟨c, q, hc⟩
        · exact ⟨_, q, Nat.le_refl _⟩
        · exact ⟨c, q, by omega⟩
      obtain ⟨b3, rfl, hb3⟩ := hb3
      refine hK w3 v3 b3 ?_ hb3 ((hk1.trans hk2).then hk3 fun b hb e => by cases e; omega)
      rw [uvF_big h]
      have e : (128 : Int) + ((x % 128 : Nat) : Int) = ((x % 128 + 128 : Nat) : Int) := by omega
      rw [e] at sl3
      exact sl3
theorem number_ok {x : Int} (hx : 0 ≤ x ∧ x ≤ 9223372036854775807) (hK : OutK w K (uI x)) : cl Tryz.prog 139 #[I x] K w := by
  have e : x = ((x.toNat : Nat) : Int) := by omega
  have e9 : (128 : Nat) ^ 9 = 9223372036854775808 := by decide
  have := numberF_ok 9 (x := x.toNat) (w := w) (K := K) (Nat.le_refl _) (by omega) (by decide) hK
  rw [← e] at this
  exact this
/-- a granted request -/
theorem yes_ok (h : Ar iC 1 F w v rs) (hF : ∀ b, F b → b < w.heap.size) (hr : ∀ x ∈ rs, N63 x) (hl : rs.length ≤ 100000) (hK : OutK w K ([0, op] ++ rs.flatMap uI)) : cl Tryz.prog 99 #[U8 op, v] K w := by
  apply c99
  unfold s99_p4
  refine bsq_r (l := [U8 0, U8 op]) rfl fun w1 r1 hk1 hz1 => ?_
  have sl1 : Sl bC 1 w1 5 (some w.heap.size) (.slice (some ⟨w.heap.size, 0, none⟩) 2 2) [0, op] := ⟨2, [], rfl, Nat.le_refl _, rfl, by rw [List.append_nil]; exact r1⟩
  refine h.ln ?_
  unfold s99_p3
  have flen : ∀ i, ((rs.take i).flatMap uI).length ≤ 900000 := fun i => by
    have : ∀ l : List Int, (l.flatMap uI).length ≤ 9 * l.length := fun l => by
      induction l with
      | nil => simp
      | cons a l ih => rw [List.flatMap_cons, List.length_append, List.length_cons]; have := uI_len a; omega
    have := this (rs.take i)
    rw [List.length_take] at this
    omega
  refine loop_n rs.length (fun i l w' => ∃ v' b, l = [v', v, I (rs.length : Nat), I (i : Nat)] ∧ Sl bC 1 w' 5 (some b) v' ([0, op] ++ (rs.take i).flatMap uI) ∧ w.heap.size ≤ b ∧ Kp Emp w w') ⟨_, _, rfl, by simpa using sl1, Nat.le_refl _, hk1⟩ ?_ ?_
  · rintro i l w2 hi ⟨v2, b2, rfl, sl2, hb2, k2⟩ B hB
    rw [s99_p3_Fe]
    unfold s99_p2
    simp only [dlt hi, e_lss, e_ift]
    refine (h.kp' k2).ix hi fun b1 o1 _ c1 => ?_
    refine c1.ld0 (v := I rs[i]) rfl ?_
    have hx := hr _ (List.getElem_mem hi)
    refine number_ok hx fun w3 v3 b3 sl3 hb3 hk3 => ?_
    have h9 := uI_len rs[i]
    have fl := flen i
    refine Sl.app2 bC_len rfl (fun _ _ => rfl) (sl2.kp' hk3) sl3 (by rw [List.length_append]; simp only [List.length_cons, List.length_nil]; omega) (by rw [List.length_append]; simp only [List.length_cons, List.length_nil]; omega) fun w4 v4 ob4 sl4 hk4 ho4 => ?_
    have s3 := hk3.size
    have s2 := k2.size
    have hb4 : ∃ b4, ob4 = some b4 ∧ w.heap.size ≤ b4 := by
      rcases ho4 with q | ⟨c, q, hc⟩
      · exact ⟨_, q, hb2⟩
      · exact ⟨c, q, by omega⟩
    obtain ⟨b4, rfl, hb4⟩ := hb4
    simp only [e_add]
    rw [inc i (by omega)]
    refine hB _ _ ⟨v4, b4, rfl, ?_, hb4, (k2.trans hk3).then hk4 fun b hb e => by cases e; omega⟩
    rw [List.take_succ_eq_append_getElem hi, List.flatMap_append, ← List.append_assoc]
    simpa using sl4
  · rintro l w2 ⟨v2, b2, rfl, sl2, hb2, k2⟩ B
    rw [s99_p3_Fe]
    unfold s99_p2
    simp only [dnlt, e_lss, e_iff]
    unfold s99_p1
    rw [List.take_length] at sl2
    exact hK w2 v2 b2 sl2 hb2 k2
/-- a record as numbers -/
def rowL (r : Rec) : List Int := [r.id, r.st, r.cl, r.sz, r.ln, r.ex, ((r.legs.length : Nat) : Int)] ++ r.legs.flatMap fun l => [l.a, l.s]
theorem row_ok {p : Rec × Value} (hl : Ar lC 2 F w p.2 p.1.legs) (hF : ∀ b, F b → b < w.heap.size) (hll : p.1.legs.length ≤ 1000) (hK : NumK w K (rowL p.1)) : cl Tryz.prog 153 #[.agg (rC p).toArray] K w := by
  apply c153
  unfold s153_p4
  refine nw_r fun w1 r1 hk1 hz1 => ?_
  replace r1 : Row w1 w.heap.size 85 (rC p) := r1
  refine fdp (ld1_r (v := I p.1.id) r1 rfl ?_)
  refine fdp (ld1_r (v := I p.1.st) r1 rfl ?_)
  refine fdp (ld1_r (v := I p.1.cl) r1 rfl ?_)
  refine fdp (ld1_r (v := I p.1.sz) r1 rfl ?_)
  refine fdp (ld1_r (v := I p.1.ln) r1 rfl ?_)
  refine fdp (ld1_r (v := I p.1.ex) r1 rfl ?_)
  refine fdp (ld1_r (v := p.2) r1 rfl ?_)
  refine hl.ln ?_
  refine bsq_r (l := [I p.1.id, I p.1.st, I p.1.cl, I p.1.sz, I p.1.ln, I p.1.ex, I (p.1.legs.length : Nat)]) rfl fun w2 r2 hk2 hz2 => ?_
  have sl2 : Sl iC 1 w2 3 (some w1.heap.size) (.slice (some ⟨w1.heap.size, 0, none⟩) 7 7) [p.1.id, p.1.st, p.1.cl, p.1.sz, p.1.ln, p.1.ex, ((p.1.legs.length : Nat) : Int)] := ⟨7, [], rfl, Nat.le_refl _, rfl, by rw [List.append_nil]; exact r2⟩
  refine fdp (ld1_r (v := p.2) (hk2.row' r1) rfl ?_)
  refine hl.ln ?_
  have k02 := hk1.trans hk2
  unfold s153_p3
  have flen : ∀ i, ((p.1.legs.take i).flatMap fun l => [l.a, l.s]).length ≤ 2000 := fun i => by
    have : ∀ l : List Leg, (l.flatMap fun l => [l.a, l.s]).length = 2 * l.length := fun l => by
      induction l with
      | nil => simp
      | cons a l ih => rw [List.flatMap_cons, List.length_append, List.length_cons, ih]; simp only [List.length_cons, List.length_nil]; omega
    have := this (p.1.legs.take i)
    rw [List.length_take] at this
    omega
  refine loop_n p.1.legs.length (fun i l w' => ∃ v' b, l = [v', p.2, I (p.1.legs.length : Nat), I (i : Nat)] ∧ Sl iC 1 w' 3 (some b) v' ([p.1.id, p.1.st, p.1.cl, p.1.sz, p.1.ln, p.1.ex, ((p.1.legs.length : Nat) : Int)] ++ (p.1.legs.take i).flatMap fun l => [l.a, l.s]) ∧ w.heap.size ≤ b ∧ Kp Emp w w') ⟨_, _, rfl, by simpa using sl2, by omega, k02⟩ ?_ ?_
  · rintro i l w3 hi ⟨v3, b3, rfl, sl3, hb3, k3⟩ B hB
    rw [s153_p3_Fe]
    unfold s153_p2
    simp only [dlt hi, e_lss, e_ift]
    refine each_r rfl (hl.kp' k3) hi (lC_len _) (lC_sc _) fun w4 r4 hk4 hz4 => ?_
    refine fdp (ld1_r (v := I p.1.legs[i].a) r4 rfl ?_)
    refine fdp (ld1_r (v := I p.1.legs[i].s) r4 rfl ?_)
    refine bsq_r (l := [I p.1.legs[i].a, I p.1.legs[i].s]) rfl fun w5 r5 hk5 hz5 => ?_
    have sl5 : Sl iC 1 w5 3 (some w4.heap.size) (.slice (some ⟨w4.heap.size, 0, none⟩) 2 2) [p.1.legs[i].a, p.1.legs[i].s] := ⟨2, [], rfl, Nat.le_refl _, rfl, by rw [List.append_nil]; exact r5⟩
    have fl := flen i
    refine Sl.app2 iC_len rfl (fun _ _ => rfl) (sl3.kp' (hk4.trans hk5)) sl5 (by rw [List.length_append]; simp only [List.length_cons, List.length_nil]; omega) (by rw [List.length_append]; simp only [List.length_cons, List.length_nil]; omega) fun w6 v6 ob6 sl6 hk6 ho6 => ?_
    have s3 := k3.size
    have hb6 : ∃ b6, ob6 = some b6 ∧ w.heap.size ≤ b6 := by
      rcases ho6 with q | ⟨c, q, hc⟩
      · exact ⟨_, q, hb3⟩
      · exact ⟨c, q, by omega⟩
    obtain ⟨b6, rfl, hb6⟩ := hb6
    simp only [e_add]
    rw [inc i (by omega)]
    refine hB _ _ ⟨v6, b6, rfl, ?_, hb6, (k3.trans (hk4.trans hk5)).then hk6 fun b hb e => by cases e; omega⟩
    rw [List.take_succ_eq_append_getElem hi, List.flatMap_append, ← List.append_assoc]
    simpa using sl6
  · rintro l w3 ⟨v3, b3, rfl, sl3, hb3, k3⟩ B
    rw [s153_p3_Fe]
    unfold s153_p2
    simp only [dnlt, e_lss, e_iff]
    unfold s153_p1
    rw [List.take_length] at sl3
    exact hK w3 v3 b3 sl3 hb3 k3
end
end Go.Proofs.Qxb6500896aGreat
