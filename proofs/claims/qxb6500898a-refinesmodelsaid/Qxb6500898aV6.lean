import Derived.Test.Qxb6500898aV5
namespace Go.Proofs.Qxb6500898a
open Go.Sh Go.RowKit
set_option linter.unusedVariables false
set_option linter.unusedSimpArgs false

/-! ### sums -/
def val : List Int → Int
  | [] => 0
  | x :: r => x * 256 ^ r.length + val r
theorem val_app (xs ys : List Int) : val (xs ++ ys) = val xs * 256 ^ ys.length + val ys := by
  induction xs with
  | nil => simp [val]
  | cons x xs ih => rw [List.cons_append, val, val, ih, List.length_append, Int.pow_add, Int.add_mul, Int.mul_assoc, Int.add_assoc]
theorem pw_pos (n : Nat) : (0 : Int) < 256 ^ n := Int.pow_pos (by decide)
theorem val_rng : ∀ {xs : List Int}, By xs → 0 ≤ val xs ∧ val xs < 256 ^ xs.length
  | [], _ => by simp [val]
  | x :: r, h => by
    have ih := val_rng (xs := r) (fun y hy => h y (List.mem_cons_of_mem _ hy))
    have hx := h x (List.mem_cons_self ..)
    have hp := pw_pos r.length
    rw [val, List.length_cons, Int.pow_succ]
    have h1 : 0 ≤ x * 256 ^ r.length := Int.mul_nonneg hx.1 (by omega)
    have h2 : x * 256 ^ r.length ≤ 255 * 256 ^ r.length := Int.mul_le_mul_of_nonneg_right hx.2 (by omega)
    omega
/-- a ones'-complement sum: r stands for the total T -/
def Res (n : Nat) (T r : Int) : Prop := ∃ t : Int, 0 ≤ t ∧ r + t * (256 ^ n - 1) = T ∧ (0 < T → 0 < r) ∧ (T = 0 → r = 0)
theorem Res.refl {n : Nat} {T : Int} : Res n T T := ⟨0, Int.le_refl _, by simp, fun h => h, fun h => h⟩
section
variable {w w' : World} {v d : Value} {ob : Option Nat} {o : Nat} {xs ys zs : List Int} {pre post : List Value} {K : Value → World → Prop} {B1 : List Value → World → Prop} {k : World → Prop} {i p : Nat} {z c : Int} {C : Nat → Prop}
theorem set_split {i : Nat} {z : Int} (hi : i < xs.length) : xs.take i ++ (z :: xs.drop (i + 1)) = xs.set i z := by
  rw [List.set_eq_take_append_cons_drop, if_pos hi]
theorem bring_in {A S : List Int} {c0 : Int} (h : Mv w v ob o (A ++ S) pre post) (hA : By A) (hS : By S) {c0 : Int} {X : Int} (hc : 0 ≤ c) (hcc : c ≤ c0) (hc1 : c0 ≤ 4611686018427387904) (hval : val S + c * 256 ^ S.length = X)
    (next : ∀ w' ys c', Mv w' v ob o ys pre post → ys.length = A.length + S.length → 0 ≤ c' → c' ≤ c0 → (0 < c → 0 < A.length → 0 < val ys + c') → (c' = 0 ∨ ys.length = ys.length) → val ys + c' * 256 ^ (A.length + S.length) = val A * 256 ^ S.length + X → Kp (fun k => ob = some k) w w' → w'.heap.size = w.heap.size → B1 [v, .int .u64 c'] w') :
    s90_p2 K B1 v (.int .u64 c) (I ((A.length : Int) - 1)) w := by
  have hl := h.len
  rw [List.length_append] at hl
  unfold s90_p2
  refine ⟨fun n l w' => ∃ (A' S' : List Int) (c' : Int), n = A'.length ∧ A'.length + S'.length = A.length + S.length ∧ l = [v, .int .u64 c', I ((A'.length : Int) - 1)] ∧ Mv w' v ob o (A' ++ S') pre post ∧ By A' ∧ By S' ∧ 0 ≤ c' ∧ c' ≤ c0 ∧ val A' * 256 ^ S'.length + (val S' + c' * 256 ^ S'.length) = val A * 256 ^ S.length + X ∧ (0 < c → A'.length < A.length → 0 < val S' + c') ∧ Kp (fun k => ob = some k) w w' ∧ w'.heap.size = w.heap.size,
    A.length, ⟨A, S, c, rfl, rfl, rfl, h, hA, hS, hc, hcc, by rw [hval], fun _ q => absurd q (Nat.lt_irrefl _), Kp.refl _ _, rfl⟩, ?_⟩
  rintro n l w1 ⟨A', S', c', rfl, hlen, rfl, m1, hA', hS', hc', hcc', hv', hpos', hk1, hz1⟩
  rw [s90_p2_Fe]
  unfold s90_p1
  try simp only [e_fd, e_nck, e_pkt, e_pkf, e_gdtt, e_gdtf, e_gdft, e_gdff, e_ift, e_iff, e_not, e_ln, e_lnT, e_cp, e_cvi, e_ex20, e_ex21, e_ex30, e_ex31, e_ex32, e_add, e_sub, e_mul, e_quo, e_rem, e_and, e_or, e_xor, e_shl, e_shr, e_eql, e_neq, e_lss, e_leq, e_gtr, e_geq, e_beq, e_bne, e_peq1, e_peq2, e_pne1, e_pne2, e_zeq1, e_zeq2, e_zne1, e_zne2, e_feq1, e_fne1, e_feq2, e_fne2, e_seq, e_sne, e_ta1, e_ta2, Nat.zero_add, Nat.add_zero, Bool.not_true, Bool.not_false]
  have rA := val_rng hA'
  have rS := val_rng hS'
  have pS := pw_pos S'.length
  -- the end of a round
  have stop : (c' = 0 ∨ A' = []) → B1 [v, .int .u64 c'] w1 := by
    intro q
    have hl' : (A' ++ S').length = A.length + S.length := by rw [List.length_append]; exact hlen
    refine next w1 (A' ++ S') c' m1 hl' hc' hcc' (fun q1 q2 => ?_) (.inr rfl) ?_ hk1 hz1
    · rw [val_app]
      by_cases e : A'.length < A.length
      · have h1 := hpos' q1 e
        have h2 : 0 ≤ val A' * 256 ^ S'.length := Int.mul_nonneg rA.1 (by omega)
        omega
      · -- nothing was done: c' is c, which is not 0
        rcases q with q | q
        · subst q
          have : 0 < val A * 256 ^ S.length + X := by
            rw [← hval]
            have e1 := (val_rng hA).1
            have e2 := (val_rng hS).1
            have e3 : 0 ≤ val A * 256 ^ S.length := Int.mul_nonneg e1 (Int.le_of_lt (pw_pos _))
            have e4 : 0 < c * 256 ^ S.length := Int.mul_pos q1 (pw_pos _)
            omega
          rw [← hv'] at this
          omega
        · have : A'.length = 0 := by rw [q]; rfl
          omega
    · rw [val_app]
      rcases q with q | q
      · subst q
        rw [← hv']; omega
      · subst q
        rw [← hv', ← hlen]
        simp [val]
  cases hA'e : A'.reverse with
  | nil =>
    have hA0 : A' = [] := by simpa using hA'e
    have hge : ¬ (0 : Int) ≤ ((A'.length : Nat) : Int) - 1 := by rw [hA0]; decide
    simp only [hge, decide_false, e_fd, e_nck, e_pkt, e_pkf, e_gdtt, e_gdtf, e_gdft, e_gdff, e_ift, e_iff, e_not, e_ln, e_lnT, e_cp, e_cvi, e_ex20, e_ex21, e_ex30, e_ex31, e_ex32, e_add, e_sub, e_mul, e_quo, e_rem, e_and, e_or, e_xor, e_shl, e_shr, e_eql, e_neq, e_lss, e_leq, e_gtr, e_geq, e_beq, e_bne, e_peq1, e_peq2, e_pne1, e_pne2, e_zeq1, e_zeq2, e_zne1, e_zne2, e_feq1, e_fne1, e_feq2, e_fne2, e_seq, e_sne, e_ta1, e_ta2, Nat.zero_add, Nat.add_zero, Bool.not_true, Bool.not_false]
    exact stop (.inr hA0)
  | cons a R =>
    have hAe : A' = R.reverse ++ [a] := by rw [← List.reverse_reverse A', hA'e, List.reverse_cons]
    generalize R.reverse = Q at hAe
    subst hAe
    have hQl : (Q ++ [a]).length = Q.length + 1 := by simp
    have hge : (0 : Int) ≤ (((Q ++ [a]).length : Nat) : Int) - 1 := by omega
    simp only [hge, decide_true, e_fd, e_nck, e_pkt, e_pkf, e_gdtt, e_gdtf, e_gdft, e_gdff, e_ift, e_iff, e_not, e_ln, e_lnT, e_cp, e_cvi, e_ex20, e_ex21, e_ex30, e_ex31, e_ex32, e_add, e_sub, e_mul, e_quo, e_rem, e_and, e_or, e_xor, e_shl, e_shr, e_eql, e_neq, e_lss, e_leq, e_gtr, e_geq, e_beq, e_bne, e_peq1, e_peq2, e_pne1, e_pne2, e_zeq1, e_zeq2, e_zne1, e_zne2, e_feq1, e_fne1, e_feq2, e_fne2, e_seq, e_sne, e_ta1, e_ta2, Nat.zero_add, Nat.add_zero, Bool.not_true, Bool.not_false]
    by_cases h0 : c' = 0
    · have e : (c' != 0) = false := by rw [h0]; rfl
      simp only [e, e_fd, e_nck, e_pkt, e_pkf, e_gdtt, e_gdtf, e_gdft, e_gdff, e_ift, e_iff, e_not, e_ln, e_lnT, e_cp, e_cvi, e_ex20, e_ex21, e_ex30, e_ex31, e_ex32, e_add, e_sub, e_mul, e_quo, e_rem, e_and, e_or, e_xor, e_shl, e_shr, e_eql, e_neq, e_lss, e_leq, e_gtr, e_geq, e_beq, e_bne, e_peq1, e_peq2, e_pne1, e_pne2, e_zeq1, e_zeq2, e_zne1, e_zne2, e_feq1, e_fne1, e_feq2, e_fne2, e_seq, e_sne, e_ta1, e_ta2, Nat.zero_add, Nat.add_zero, Bool.not_true, Bool.not_false]
      exact stop (.inl h0)
    · have e : (c' != 0) = true := by rw [bne_iff_ne]; exact h0
      simp only [e, e_fd, e_nck, e_pkt, e_pkf, e_gdtt, e_gdtf, e_gdft, e_gdff, e_ift, e_iff, e_not, e_ln, e_lnT, e_cp, e_cvi, e_ex20, e_ex21, e_ex30, e_ex31, e_ex32, e_add, e_sub, e_mul, e_quo, e_rem, e_and, e_or, e_xor, e_shl, e_shr, e_eql, e_neq, e_lss, e_leq, e_gtr, e_geq, e_beq, e_bne, e_peq1, e_peq2, e_pne1, e_pne2, e_zeq1, e_zeq2, e_zne1, e_zne2, e_feq1, e_fne1, e_feq2, e_fne2, e_seq, e_sne, e_ta1, e_ta2, Nat.zero_add, Nat.add_zero, Bool.not_true, Bool.not_false]
      have ha := hA' a (by simp)
      have hQ : By Q := fun x hx => hA' x (by simp [hx])
      have ml := m1.len
      rw [List.length_append, hQl] at ml
      have hix : Q.length < (Q ++ [a] ++ S').length := by rw [List.length_append, hQl]; omega
      have hget : (Q ++ [a] ++ S')[Q.length] = a := by
        rw [List.getElem_append_left (by omega), List.getElem_append_right (by omega)]; simp
      have hii : (((Q ++ [a]).length : Nat) : Int) - 1 = (Q.length : Int) := by omega
      rw [hii]
      refine m1.get (i := Q.length) hix rfl ?_
      rw [hget]
      try simp only [e_fd, e_nck, e_pkt, e_pkf, e_gdtt, e_gdtf, e_gdft, e_gdff, e_ift, e_iff, e_not, e_ln, e_lnT, e_cp, e_cvi, e_ex20, e_ex21, e_ex30, e_ex31, e_ex32, e_add, e_sub, e_mul, e_quo, e_rem, e_and, e_or, e_xor, e_shl, e_shr, e_eql, e_neq, e_lss, e_leq, e_gtr, e_geq, e_beq, e_bne, e_peq1, e_peq2, e_pne1, e_pne2, e_zeq1, e_zeq2, e_zne1, e_zne2, e_feq1, e_fne1, e_feq2, e_fne2, e_seq, e_sne, e_ta1, e_ta2, Nat.zero_add, Nat.add_zero, Bool.not_true, Bool.not_false]
      rw [wrapu64 a, show a % 18446744073709551616 = a by omega, wrapu64 (c' + a), show (c' + a) % 18446744073709551616 = c' + a by omega, wrapu8]
      refine m1.ix (i := Q.length) hix rfl fun pp _ hst => ?_
      refine hst m1 rfl (by omega) fun w2 m2 hk2 hz2 => ?_
      have hset : (Q ++ [a] ++ S').set Q.length ((c' + a) % 256) = Q ++ ((c' + a) % 256 :: S') := by
        rw [List.append_assoc, List.set_append_right _ _ (Nat.le_refl _), Nat.sub_self]; rfl
      rw [hset] at m2
      try simp only [e_fd, e_nck, e_pkt, e_pkf, e_gdtt, e_gdtf, e_gdft, e_gdff, e_ift, e_iff, e_not, e_ln, e_lnT, e_cp, e_cvi, e_ex20, e_ex21, e_ex30, e_ex31, e_ex32, e_add, e_sub, e_mul, e_quo, e_rem, e_and, e_or, e_xor, e_shl, e_shr, e_eql, e_neq, e_lss, e_leq, e_gtr, e_geq, e_beq, e_bne, e_peq1, e_peq2, e_pne1, e_pne2, e_zeq1, e_zeq2, e_zne1, e_zne2, e_feq1, e_fne1, e_feq2, e_fne2, e_seq, e_sne, e_ta1, e_ta2, Nat.zero_add, Nat.add_zero, Bool.not_true, Bool.not_false]
      refine ⟨by decide, ?_⟩
      rw [p64_8, Int.fdiv_eq_ediv_of_nonneg _ (by decide), wrap64_id (by omega) (by omega)]
      refine ⟨Q.length, by omega, Q, (c' + a) % 256 :: S', (c' + a) / 256, rfl, by rw [List.length_cons]; omega, rfl, m2, hQ, fun x hx => ?_, by omega, by omega, ?_, fun q1 q2 => ?_, hk1.trans hk2, by omega⟩
      · rcases List.mem_cons.1 hx with q | q
        · omega
        · exact hS' x q
      · rw [← hv', List.length_cons, val, val_app, Int.pow_succ]
        have e1 : (c' + a) % 256 * 256 ^ S'.length + (c' + a) / 256 * (256 ^ S'.length * 256) = (c' + a) * 256 ^ S'.length := by
          have : c' + a = (c' + a) % 256 + (c' + a) / 256 * 256 := by omega
          calc (c' + a) % 256 * 256 ^ S'.length + (c' + a) / 256 * (256 ^ S'.length * 256)
              = ((c' + a) % 256 + (c' + a) / 256 * 256) * 256 ^ S'.length := by rw [Int.add_mul, Int.mul_comm (256 ^ S'.length) 256, Int.mul_assoc]
            _ = (c' + a) * 256 ^ S'.length := by rw [← this]
        have e2 : val [a] = a := by simp [val]
        have e3 : (val Q * 256 ^ [a].length + val [a]) * 256 ^ S'.length = val Q * (256 ^ S'.length * 256) + a * 256 ^ S'.length := by
          rw [e2, Int.add_mul]; simp; rw [Int.mul_assoc, Int.mul_comm 256]
        rw [e3]
        rw [Int.add_mul] at e1
        omega
      · rw [val]
        have h2 : 0 ≤ (c' + a) % 256 * 256 ^ S'.length := Int.mul_nonneg (by omega) (by omega)
        by_cases h3 : (c' + a) / 256 = 0
        · have h4 : 0 < (c' + a) % 256 * 256 ^ S'.length := Int.mul_pos (by omega) (by omega)
          omega
        · omega
theorem bring_ok (h : Mv w v ob o xs pre post) (hc : 0 ≤ c) (hc1 : c ≤ 4611686018427387904) (h0 : xs.length = 0 → c = 0) (hK : ∀ w' ys, Mv w' v ob o ys pre post → ys.length = xs.length → Res xs.length (val xs + c) (val ys) → Kp (fun k => ob = some k) w w' → w'.heap.size = w.heap.size → K (.tuple #[]) w') : cl Try.prog 90 #[v, .int .u64 c] K w := by
  have hl := h.len
  have r0 := val_rng h.by_
  apply c90
  unfold s90_p5
  refine ⟨fun n l w' => ∃ (ys : List Int) (c' : Int), (n : Int) = 2 * (val ys + c') + (if c' = 0 then 0 else 1) ∧ ys.length = xs.length ∧ l = [v, .int .u64 c'] ∧ Mv w' v ob o ys pre post ∧ 0 ≤ c' ∧ c' ≤ 4611686018427387904 ∧ (xs.length = 0 → c' = 0) ∧ Res xs.length (val xs + c) (val ys + c') ∧ Kp (fun k => ob = some k) w w' ∧ w'.heap.size = w.heap.size,
    (2 * (val xs + c) + (if c = 0 then 0 else 1)).toNat, ⟨xs, c, by split <;> omega, rfl, rfl, h, hc, hc1, h0, Res.refl, Kp.refl _ _, rfl⟩, ?_⟩
  rintro n l w1 ⟨ys, c', hn, hly, rfl, m1, hc', hcc', h0', hres, hk1, hz1⟩
  rw [s90_p5_Fe]
  unfold s90_p4
  try simp only [e_fd, e_nck, e_pkt, e_pkf, e_gdtt, e_gdtf, e_gdft, e_gdff, e_ift, e_iff, e_not, e_ln, e_lnT, e_cp, e_cvi, e_ex20, e_ex21, e_ex30, e_ex31, e_ex32, e_add, e_sub, e_mul, e_quo, e_rem, e_and, e_or, e_xor, e_shl, e_shr, e_eql, e_neq, e_lss, e_leq, e_gtr, e_geq, e_beq, e_bne, e_peq1, e_peq2, e_pne1, e_pne2, e_zeq1, e_zeq2, e_zne1, e_zne2, e_feq1, e_fne1, e_feq2, e_fne2, e_seq, e_sne, e_ta1, e_ta2, Nat.zero_add, Nat.add_zero, Bool.not_true, Bool.not_false]
  by_cases hz : c' = 0
  · have e : (c' != 0) = false := by rw [hz]; rfl
    simp only [e, e_fd, e_nck, e_pkt, e_pkf, e_gdtt, e_gdtf, e_gdft, e_gdff, e_ift, e_iff, e_not, e_ln, e_lnT, e_cp, e_cvi, e_ex20, e_ex21, e_ex30, e_ex31, e_ex32, e_add, e_sub, e_mul, e_quo, e_rem, e_and, e_or, e_xor, e_shl, e_shr, e_eql, e_neq, e_lss, e_leq, e_gtr, e_geq, e_beq, e_bne, e_peq1, e_peq2, e_pne1, e_pne2, e_zeq1, e_zeq2, e_zne1, e_zne2, e_feq1, e_fne1, e_feq2, e_fne2, e_seq, e_sne, e_ta1, e_ta2, Nat.zero_add, Nat.add_zero, Bool.not_true, Bool.not_false]
    subst hz
    rw [Int.add_zero] at hres
    exact hK w1 ys m1 hly hres hk1 hz1
  · have e : (c' != 0) = true := by rw [bne_iff_ne]; exact hz
    simp only [e, e_fd, e_nck, e_pkt, e_pkf, e_gdtt, e_gdtf, e_gdft, e_gdff, e_ift, e_iff, e_not, e_ln, e_lnT, e_cp, e_cvi, e_ex20, e_ex21, e_ex30, e_ex31, e_ex32, e_add, e_sub, e_mul, e_quo, e_rem, e_and, e_or, e_xor, e_shl, e_shr, e_eql, e_neq, e_lss, e_leq, e_gtr, e_geq, e_beq, e_bne, e_peq1, e_peq2, e_pne1, e_pne2, e_zeq1, e_zeq2, e_zne1, e_zne2, e_feq1, e_fne1, e_feq2, e_fne2, e_seq, e_sne, e_ta1, e_ta2, Nat.zero_add, Nat.add_zero, Bool.not_true, Bool.not_false]
    unfold s90_p3
    refine m1.ln ?_
    try simp only [e_fd, e_nck, e_pkt, e_pkf, e_gdtt, e_gdtf, e_gdft, e_gdff, e_ift, e_iff, e_not, e_ln, e_lnT, e_cp, e_cvi, e_ex20, e_ex21, e_ex30, e_ex31, e_ex32, e_add, e_sub, e_mul, e_quo, e_rem, e_and, e_or, e_xor, e_shl, e_shr, e_eql, e_neq, e_lss, e_leq, e_gtr, e_geq, e_beq, e_bne, e_peq1, e_peq2, e_pne1, e_pne2, e_zeq1, e_zeq2, e_zne1, e_zne2, e_feq1, e_fne1, e_feq2, e_fne2, e_seq, e_sne, e_ta1, e_ta2, Nat.zero_add, Nat.add_zero, Bool.not_true, Bool.not_false]
    rw [wrap64_id (by omega) (by omega)]
    have r1 := val_rng m1.by_
    have hnn : 0 < ys.length := by
      rcases Nat.eq_zero_or_pos ys.length with q | q
      · exact absurd (h0' (by omega)) hz
      · exact q
    refine bring_in (A := ys) (S := []) (c0 := c') (by rw [List.append_nil]; exact m1) m1.by_ (fun x hx => (by cases hx)) hc' (Int.le_refl _) hcc' rfl fun w2 zs c2 m2 hlz hc2 hcc2 hpos _ hv hk2 hz2 => ?_
    rw [List.length_nil, Nat.add_zero] at hlz hv
    rw [hly] at hv hnn
    simp only [List.length_nil, Int.pow_zero, Int.mul_one, val, Int.zero_add] at hv
    have rz := val_rng m2.by_
    have hM : (256 : Int) ≤ 256 ^ xs.length := by
      obtain ⟨j, hj⟩ : ∃ j, xs.length = j + 1 := ⟨xs.length - 1, by omega⟩
      rw [hj, Int.pow_succ]
      have := pw_pos j
      omega
    have hp := hpos (by omega) (by omega)
    obtain ⟨t, ht, hT, hT1, hT2⟩ := hres
    have hdec : c2 * 256 ^ xs.length = c2 * (256 ^ xs.length - 1) + c2 := by rw [Int.mul_sub, Int.mul_one]; omega
    have hge : 0 ≤ c2 * (256 ^ xs.length - 1) := Int.mul_nonneg hc2 (by omega)
    refine ⟨(2 * (val zs + c2) + (if c2 = 0 then 0 else 1)).toNat, ?_, zs, c2, ?_, by omega, rfl, m2, hc2, by omega, fun q => by omega, ⟨t + c2, by omega, ?_, fun _ => hp, fun q => ?_⟩, hk1.trans hk2, by omega⟩
    · have hcast : ((2 * (val zs + c2) + (if c2 = 0 then 0 else 1)).toNat : Int) < (n : Int) := by
        rw [hn, if_neg hz]
        by_cases q : c2 = 0
        · rw [if_pos q]; rw [q] at hv; omega
        · rw [if_neg q]
          have : c2 * 255 ≤ c2 * (256 ^ xs.length - 1) := Int.mul_le_mul_of_nonneg_left (by omega) hc2
          omega
      omega
    · have := rz.1
      split <;> omega
    · rw [Int.add_mul]; omega
    · have := hT2 q
      have := r1.1
      omega
end
end Go.Proofs.Qxb6500898a
