import Derived.Test.Qxb6500895aD11
import Derived.Test.Qxb6500895aH1
namespace Go.Proofs.Qxb6500895a
open Go.Sh Go.RowKit
set_option linter.unusedVariables false
set_option linter.unusedSimpArgs false

theorem tab_swp (N i j : Nat) (g : Nat → Int) : (((tab N g).map I).set i (I (g j))).set j (I (g i)) = (tab N (swp g i j)).map I := by
  rw [← List.map_set, ← List.map_set, tab_set, tab_set]
  congr 2
  funext k
  unfold swp
  by_cases c : k = i
  · subst c
    by_cases c' : k = j
    · subst c'; simp
    · simp [c']
  · by_cases c' : k = j
    · subst c'; simp [c]
    · simp [c, c']

section
variable {w : World} {b N n cap : Nat} {g : Nat → Int} {K : Value → World → Prop}
theorem ix_b {i : Nat} (hi : i < n) (hK : K (P b i) w) : ixs 1 (.slice (some ⟨b, 0, none⟩) n cap) (I (i : Nat)) K w := by
  refine ⟨⟨by omega, by omega⟩, ?_⟩
  have e : ((i : Int)).toNat = i := by omega
  rw [e, add_mk, Nat.mul_one, Nat.zero_add]
  exact hK
theorem ld_b (hr : Row w b 3 ((tab N g).map I)) {i : Nat} (hi : i < N) (hK : K (I (g i)) w) : ld1 (P b i) K w :=
  ld1_r hr (by rw [List.getElem?_map, tab_get g hi]; rfl) hK

theorem sift_ok {lo r : Nat} (hr : Row w b 3 ((tab N g).map I)) (hnN : n ≤ N) (hN : N ≤ 65536) (hlo : lo ≤ r) (hrn : r < n) (hp : Hp n g lo r)
    (hK : ∀ w' g', Row w' b 3 ((tab N g').map I) → Kp (fun k => k = b) w w' → Rel n g g' → Heap n g' lo → K (.tuple #[]) w') : cl Try.prog 70 #[.slice (some ⟨b, 0, none⟩) n cap, I r] K w := by
  apply c70
  refine ⟨fun m l w' => ∃ (r : Nat) (g' : Nat → Int), m = n - r ∧ l = [.slice (some ⟨b, 0, none⟩) n cap, I r] ∧ lo ≤ r ∧ r < n ∧ Hp n g' lo r ∧ Rel n g g' ∧ Row w' b 3 ((tab N g').map I) ∧ Kp (fun k => k = b) w w',
    n - r, ⟨r, g, rfl, rfl, hlo, hrn, hp, Rel.refl _ _, hr, Kp.refl _ _⟩, ?_⟩
  clear hp hr hlo hrn
  rintro m l w1 ⟨r, g1, rfl, rfl, hlo, hrn, hp, hrel, hr, hk⟩
  rw [s70_p8_Fe]
  unfold s70_p7
  simp only [e_fd, e_nck, e_pkt, e_pkf, e_gdtt, e_gdtf, e_gdft, e_gdff, e_ift, e_iff, e_not, e_ln, e_lnT, e_cp, e_cvi, e_ex20, e_ex21, e_ex30, e_ex31, e_ex32, e_add, e_sub, e_mul, e_quo, e_rem, e_and, e_or, e_xor, e_shl, e_shr, e_eql, e_neq, e_lss, e_leq, e_gtr, e_geq, e_beq, e_bne, e_peq1, e_peq2, e_pne1, e_pne2, e_zeq1, e_zeq2, e_zne1, e_zne2, e_feq1, e_fne1, e_feq2, e_fne2, e_seq, e_sne, e_ta1, e_ta2, Nat.zero_add, Nat.add_zero, Bool.not_true, Bool.not_false]
  have ew : IntKind.i64.wrap (2 * (r : Int)) = 2 * (r : Int) := wrap64_id (by omega) (by omega)
  rw [ew, wrap64_id (by omega) (by omega)]
  by_cases h1 : ((n : Nat) : Int) ≤ 2 * (r : Int) + 1
  · simp only [h1, decide_true, e_fd, e_nck, e_pkt, e_pkf, e_gdtt, e_gdtf, e_gdft, e_gdff, e_ift, e_iff, e_not, e_ln, e_lnT, e_cp, e_cvi, e_ex20, e_ex21, e_ex30, e_ex31, e_ex32, e_add, e_sub, e_mul, e_quo, e_rem, e_and, e_or, e_xor, e_shl, e_shr, e_eql, e_neq, e_lss, e_leq, e_gtr, e_geq, e_beq, e_bne, e_peq1, e_peq2, e_pne1, e_pne2, e_zeq1, e_zeq2, e_zne1, e_zne2, e_feq1, e_fne1, e_feq2, e_fne2, e_seq, e_sne, e_ta1, e_ta2, Nat.zero_add, Nat.add_zero, Bool.not_true, Bool.not_false]
    refine hK w1 g1 hr hk hrel (hp.stop fun c hc hcn => absurd hcn (by rcases hc with q | q <;> omega))
  · simp only [h1, decide_false, e_fd, e_nck, e_pkt, e_pkf, e_gdtt, e_gdtf, e_gdft, e_gdff, e_ift, e_iff, e_not, e_ln, e_lnT, e_cp, e_cvi, e_ex20, e_ex21, e_ex30, e_ex31, e_ex32, e_add, e_sub, e_mul, e_quo, e_rem, e_and, e_or, e_xor, e_shl, e_shr, e_eql, e_neq, e_lss, e_leq, e_gtr, e_geq, e_beq, e_bne, e_peq1, e_peq2, e_pne1, e_pne2, e_zeq1, e_zeq2, e_zne1, e_zne2, e_feq1, e_fne1, e_feq2, e_fne2, e_seq, e_sne, e_ta1, e_ta2, Nat.zero_add, Nat.add_zero, Bool.not_true, Bool.not_false]
    have e1 : 2 * (r : Int) + 1 = ((2 * r + 1 : Nat) : Int) := by omega
    rw [e1]
    have rd := hr.drw
    have hkd : Kp (fun k => k = b) w (drw w1) := hk.trans kp_drw
    -- the child is known
    have fin : ∀ c, Big n g1 r c → s70_p4 K (fun l' w' => ∃ m', m' < n - r ∧ ∃ (r : Nat) (g' : Nat → Int), m' = n - r ∧ l' = [.slice (some ⟨b, 0, none⟩) n cap, I r] ∧ lo ≤ r ∧ r < n ∧ Hp n g' lo r ∧ Rel n g g' ∧ Row w' b 3 ((tab N g').map I) ∧ Kp (fun k => k = b) w w') (.slice (some ⟨b, 0, none⟩) n cap) (I r) (I (c : Nat)) (drw w1) := by
      intro c hb
      have hcn := hb.lt
      unfold s70_p4 s70_p4_d
      refine ix_b hrn (ld_b rd.drw (by omega) ?_)
      refine ix_b hb.lt (ld_b rd.drw (by omega) ?_)
      simp only [e_fd, e_nck, e_pkt, e_pkf, e_gdtt, e_gdtf, e_gdft, e_gdff, e_ift, e_iff, e_not, e_ln, e_lnT, e_cp, e_cvi, e_ex20, e_ex21, e_ex30, e_ex31, e_ex32, e_add, e_sub, e_mul, e_quo, e_rem, e_and, e_or, e_xor, e_shl, e_shr, e_eql, e_neq, e_lss, e_leq, e_gtr, e_geq, e_beq, e_bne, e_peq1, e_peq2, e_pne1, e_pne2, e_zeq1, e_zeq2, e_zne1, e_zne2, e_feq1, e_fne1, e_feq2, e_fne2, e_seq, e_sne, e_ta1, e_ta2, Nat.zero_add, Nat.add_zero, Bool.not_true, Bool.not_false]
      unfold s70_p3
      by_cases h2 : g1 c ≤ g1 r
      · simp only [h2, decide_true, e_fd, e_nck, e_pkt, e_pkf, e_gdtt, e_gdtf, e_gdft, e_gdff, e_ift, e_iff, e_not, e_ln, e_lnT, e_cp, e_cvi, e_ex20, e_ex21, e_ex30, e_ex31, e_ex32, e_add, e_sub, e_mul, e_quo, e_rem, e_and, e_or, e_xor, e_shl, e_shr, e_eql, e_neq, e_lss, e_leq, e_gtr, e_geq, e_beq, e_bne, e_peq1, e_peq2, e_pne1, e_pne2, e_zeq1, e_zeq2, e_zne1, e_zne2, e_feq1, e_fne1, e_feq2, e_fne2, e_seq, e_sne, e_ta1, e_ta2, Nat.zero_add, Nat.add_zero, Bool.not_true, Bool.not_false]
        refine hK _ g1 rd.drw (hkd.trans kp_drw) hrel (hp.stop fun c' hc' hcn' => Int.le_trans (hb.mx c' hc' hcn') h2)
      · simp only [h2, decide_false, e_fd, e_nck, e_pkt, e_pkf, e_gdtt, e_gdtf, e_gdft, e_gdff, e_ift, e_iff, e_not, e_ln, e_lnT, e_cp, e_cvi, e_ex20, e_ex21, e_ex30, e_ex31, e_ex32, e_add, e_sub, e_mul, e_quo, e_rem, e_and, e_or, e_xor, e_shl, e_shr, e_eql, e_neq, e_lss, e_leq, e_gtr, e_geq, e_beq, e_bne, e_peq1, e_peq2, e_pne1, e_pne2, e_zeq1, e_zeq2, e_zne1, e_zne2, e_feq1, e_fne1, e_feq2, e_fne2, e_seq, e_sne, e_ta1, e_ta2, Nat.zero_add, Nat.add_zero, Bool.not_true, Bool.not_false]
        unfold s70_p2 s70_p2_d
        have r3 := rd.drw.drw
        refine ix_b hb.lt (ld_b r3 (by omega) ?_)
        refine ix_b hrn (ld_b r3 (by omega) ?_)
        refine ix_b hrn ?_
        refine ix_b hb.lt ?_
        refine st1_r r3 (by rw [List.length_map, tab_len]; omega) rfl fun w4 r4 hk4 hz4 => ?_
        refine st1_r r4 (by rw [List.length_set, List.length_map, tab_len]; omega) rfl fun w5 r5 hk5 hz5 => ?_
        rw [tab_swp] at r5
        unfold s70_p1
        have hrc : r < c := by rcases hb.ch with q | q <;> omega
        exact ⟨n - c, by omega, c, swp g1 r c, rfl, rfl, by omega, hcn, hp.step hb hlo hrn (by omega), hrel.trans (rel_swp hrn hcn), r5, (((hkd.trans kp_drw).trans kp_drw).trans hk4).trans hk5⟩
    unfold s70_p6 s70_p6_d
    simp only [e_fd, e_nck, e_pkt, e_pkf, e_gdtt, e_gdtf, e_gdft, e_gdff, e_ift, e_iff, e_not, e_ln, e_lnT, e_cp, e_cvi, e_ex20, e_ex21, e_ex30, e_ex31, e_ex32, e_add, e_sub, e_mul, e_quo, e_rem, e_and, e_or, e_xor, e_shl, e_shr, e_eql, e_neq, e_lss, e_leq, e_gtr, e_geq, e_beq, e_bne, e_peq1, e_peq2, e_pne1, e_pne2, e_zeq1, e_zeq2, e_zne1, e_zne2, e_feq1, e_fne1, e_feq2, e_fne2, e_seq, e_sne, e_ta1, e_ta2, Nat.zero_add, Nat.add_zero, Bool.not_true, Bool.not_false]
    rw [wrap64_id (by omega) (by omega)]
    by_cases h2 : ((2 * r + 1 : Nat) : Int) + 1 < ((n : Nat) : Int)
    · simp only [h2, decide_true, e_fd, e_nck, e_pkt, e_pkf, e_gdtt, e_gdtf, e_gdft, e_gdff, e_ift, e_iff, e_not, e_ln, e_lnT, e_cp, e_cvi, e_ex20, e_ex21, e_ex30, e_ex31, e_ex32, e_add, e_sub, e_mul, e_quo, e_rem, e_and, e_or, e_xor, e_shl, e_shr, e_eql, e_neq, e_lss, e_leq, e_gtr, e_geq, e_beq, e_bne, e_peq1, e_peq2, e_pne1, e_pne2, e_zeq1, e_zeq2, e_zne1, e_zne2, e_feq1, e_fne1, e_feq2, e_fne2, e_seq, e_sne, e_ta1, e_ta2, Nat.zero_add, Nat.add_zero, Bool.not_true, Bool.not_false]
      have e2 : ((2 * r + 1 : Nat) : Int) + 1 = ((2 * r + 2 : Nat) : Int) := by omega
      rw [e2, wrap64_id (by omega) (by omega)]
      refine ix_b (i := 2 * r + 2) (by omega) (ld_b (i := 2 * r + 2) rd (by omega) ?_)
      refine ix_b (i := 2 * r + 1) (by omega) (ld_b (i := 2 * r + 1) rd (by omega) ?_)
      simp only [e_fd, e_nck, e_pkt, e_pkf, e_gdtt, e_gdtf, e_gdft, e_gdff, e_ift, e_iff, e_not, e_ln, e_lnT, e_cp, e_cvi, e_ex20, e_ex21, e_ex30, e_ex31, e_ex32, e_add, e_sub, e_mul, e_quo, e_rem, e_and, e_or, e_xor, e_shl, e_shr, e_eql, e_neq, e_lss, e_leq, e_gtr, e_geq, e_beq, e_bne, e_peq1, e_peq2, e_pne1, e_pne2, e_zeq1, e_zeq2, e_zne1, e_zne2, e_feq1, e_fne1, e_feq2, e_fne2, e_seq, e_sne, e_ta1, e_ta2, Nat.zero_add, Nat.add_zero, Bool.not_true, Bool.not_false]
      unfold s70_p5
      by_cases h3 : g1 (2 * r + 1) < g1 (2 * r + 2)
      · simp only [h3, decide_true, e_fd, e_nck, e_pkt, e_pkf, e_gdtt, e_gdtf, e_gdft, e_gdff, e_ift, e_iff, e_not, e_ln, e_lnT, e_cp, e_cvi, e_ex20, e_ex21, e_ex30, e_ex31, e_ex32, e_add, e_sub, e_mul, e_quo, e_rem, e_and, e_or, e_xor, e_shl, e_shr, e_eql, e_neq, e_lss, e_leq, e_gtr, e_geq, e_beq, e_bne, e_peq1, e_peq2, e_pne1, e_pne2, e_zeq1, e_zeq2, e_zne1, e_zne2, e_feq1, e_fne1, e_feq2, e_fne2, e_seq, e_sne, e_ta1, e_ta2, Nat.zero_add, Nat.add_zero, Bool.not_true, Bool.not_false]
        rw [wrap64_id (by omega) (by omega), e2]
        exact fin (2 * r + 2) ⟨.inr rfl, by omega, fun x hx _ => by rcases hx with q | q <;> subst q <;> omega⟩
      · simp only [h3, decide_false, e_fd, e_nck, e_pkt, e_pkf, e_gdtt, e_gdtf, e_gdft, e_gdff, e_ift, e_iff, e_not, e_ln, e_lnT, e_cp, e_cvi, e_ex20, e_ex21, e_ex30, e_ex31, e_ex32, e_add, e_sub, e_mul, e_quo, e_rem, e_and, e_or, e_xor, e_shl, e_shr, e_eql, e_neq, e_lss, e_leq, e_gtr, e_geq, e_beq, e_bne, e_peq1, e_peq2, e_pne1, e_pne2, e_zeq1, e_zeq2, e_zne1, e_zne2, e_feq1, e_fne1, e_feq2, e_fne2, e_seq, e_sne, e_ta1, e_ta2, Nat.zero_add, Nat.add_zero, Bool.not_true, Bool.not_false]
        exact fin (2 * r + 1) ⟨.inl rfl, by omega, fun x hx _ => by rcases hx with q | q <;> subst q <;> omega⟩
    · simp only [h2, decide_false, e_fd, e_nck, e_pkt, e_pkf, e_gdtt, e_gdtf, e_gdft, e_gdff, e_ift, e_iff, e_not, e_ln, e_lnT, e_cp, e_cvi, e_ex20, e_ex21, e_ex30, e_ex31, e_ex32, e_add, e_sub, e_mul, e_quo, e_rem, e_and, e_or, e_xor, e_shl, e_shr, e_eql, e_neq, e_lss, e_leq, e_gtr, e_geq, e_beq, e_bne, e_peq1, e_peq2, e_pne1, e_pne2, e_zeq1, e_zeq2, e_zne1, e_zne2, e_feq1, e_fne1, e_feq2, e_fne2, e_seq, e_sne, e_ta1, e_ta2, Nat.zero_add, Nat.add_zero, Bool.not_true, Bool.not_false]
      unfold s70_p5
      simp only [e_fd, e_nck, e_pkt, e_pkf, e_gdtt, e_gdtf, e_gdft, e_gdff, e_ift, e_iff, e_not, e_ln, e_lnT, e_cp, e_cvi, e_ex20, e_ex21, e_ex30, e_ex31, e_ex32, e_add, e_sub, e_mul, e_quo, e_rem, e_and, e_or, e_xor, e_shl, e_shr, e_eql, e_neq, e_lss, e_leq, e_gtr, e_geq, e_beq, e_bne, e_peq1, e_peq2, e_pne1, e_pne2, e_zeq1, e_zeq2, e_zne1, e_zne2, e_feq1, e_fne1, e_feq2, e_fne2, e_seq, e_sne, e_ta1, e_ta2, Nat.zero_add, Nat.add_zero, Bool.not_true, Bool.not_false]
      exact fin (2 * r + 1) ⟨.inl rfl, by omega, fun x hx hxn => by rcases hx with q | q <;> subst q <;> omega⟩

theorem sort_ok (hr : Row w b 3 ((tab n g).map I)) (hN : n ≤ 65536) (hK : ∀ w' g', Row w' b 3 ((tab n g').map I) → Kp (fun k => k = b) w w' → Rel n g g' → (∀ i j, i < j → j < n → g' i ≤ g' j) → K (.tuple #[]) w') :
    cl Try.prog 69 #[.slice (some ⟨b, 0, none⟩) n n] K w := by
  apply c69
  unfold s69_p9
  simp only [e_fd, e_nck, e_pkt, e_pkf, e_gdtt, e_gdtf, e_gdft, e_gdff, e_ift, e_iff, e_not, e_ln, e_lnT, e_cp, e_cvi, e_ex20, e_ex21, e_ex30, e_ex31, e_ex32, e_add, e_sub, e_mul, e_quo, e_rem, e_and, e_or, e_xor, e_shl, e_shr, e_eql, e_neq, e_lss, e_leq, e_gtr, e_geq, e_beq, e_bne, e_peq1, e_peq2, e_pne1, e_pne2, e_zeq1, e_zeq2, e_zne1, e_zne2, e_feq1, e_fne1, e_feq2, e_fne2, e_seq, e_sne, e_ta1, e_ta2, Nat.zero_add, Nat.add_zero, Bool.not_true, Bool.not_false]
  refine ⟨by decide, ?_⟩
  have ed : ((n : Nat) : Int).tdiv 2 = ((n / 2 : Nat) : Int) := by rw [Int.tdiv_eq_ediv_of_nonneg (by omega)]; omega
  have ew : IntKind.i64.wrap ((n / 2 : Nat) : Int) = ((n / 2 : Nat) : Int) := wrap64_id (by omega) (by omega)
  rw [ed, ew, wrap64_id (by omega) (by omega)]
  refine ⟨fun m l w' => ∃ (z : Int) (g' : Nat → Int), m = (z + 1).toNat ∧ l = [.slice (some ⟨b, 0, none⟩) n n, I z] ∧ -1 ≤ z ∧ 2 * z + 2 ≤ n ∧ Heap n g' (z + 1).toNat ∧ Rel n g g' ∧ Row w' b 3 ((tab n g').map I) ∧ Kp (fun k => k = b) w w',
    _, ⟨((n / 2 : Nat) : Int) - 1, g, rfl, rfl, by omega, by omega, ?_, Rel.refl _ _, hr, Kp.refl _ _⟩, ?_⟩
  · have : (((n / 2 : Nat) : Int) - 1 + 1).toNat = n / 2 := by omega
    rw [this]; exact Heap.start g
  clear hr
  rintro m l w1 ⟨z, g1, rfl, rfl, hz0, hz1, hh, hrel, hr, hk⟩
  rw [s69_p8_Fe]
  unfold s69_p7
  simp only [e_fd, e_nck, e_pkt, e_pkf, e_gdtt, e_gdtf, e_gdft, e_gdff, e_ift, e_iff, e_not, e_ln, e_lnT, e_cp, e_cvi, e_ex20, e_ex21, e_ex30, e_ex31, e_ex32, e_add, e_sub, e_mul, e_quo, e_rem, e_and, e_or, e_xor, e_shl, e_shr, e_eql, e_neq, e_lss, e_leq, e_gtr, e_geq, e_beq, e_bne, e_peq1, e_peq2, e_pne1, e_pne2, e_zeq1, e_zeq2, e_zne1, e_zne2, e_feq1, e_fne1, e_feq2, e_fne2, e_seq, e_sne, e_ta1, e_ta2, Nat.zero_add, Nat.add_zero, Bool.not_true, Bool.not_false]
  by_cases h0 : (0 : Int) ≤ z
  · simp only [h0, decide_true, e_fd, e_nck, e_pkt, e_pkf, e_gdtt, e_gdtf, e_gdft, e_gdff, e_ift, e_iff, e_not, e_ln, e_lnT, e_cp, e_cvi, e_ex20, e_ex21, e_ex30, e_ex31, e_ex32, e_add, e_sub, e_mul, e_quo, e_rem, e_and, e_or, e_xor, e_shl, e_shr, e_eql, e_neq, e_lss, e_leq, e_gtr, e_geq, e_beq, e_bne, e_peq1, e_peq2, e_pne1, e_pne2, e_zeq1, e_zeq2, e_zne1, e_zne2, e_feq1, e_fne1, e_feq2, e_fne2, e_seq, e_sne, e_ta1, e_ta2, Nat.zero_add, Nat.add_zero, Bool.not_true, Bool.not_false]
    obtain ⟨r, rfl⟩ : ∃ r : Nat, z = (r : Int) := ⟨z.toNat, by omega⟩
    have e1 : ((r : Int) + 1).toNat = r + 1 := by omega
    rw [e1] at hh
    refine sift_ok hr (Nat.le_refl _) hN (Nat.le_refl r) (by omega) hh.hp fun w2 g2 r2 hk2 hrel2 hh2 => ?_
    try simp only [e_fd, e_nck, e_pkt, e_pkf, e_gdtt, e_gdtf, e_gdft, e_gdff, e_ift, e_iff, e_not, e_ln, e_lnT, e_cp, e_cvi, e_ex20, e_ex21, e_ex30, e_ex31, e_ex32, e_add, e_sub, e_mul, e_quo, e_rem, e_and, e_or, e_xor, e_shl, e_shr, e_eql, e_neq, e_lss, e_leq, e_gtr, e_geq, e_beq, e_bne, e_peq1, e_peq2, e_pne1, e_pne2, e_zeq1, e_zeq2, e_zne1, e_zne2, e_feq1, e_fne1, e_feq2, e_fne2, e_seq, e_sne, e_ta1, e_ta2, Nat.zero_add, Nat.add_zero, Bool.not_true, Bool.not_false]
    rw [wrap64_id (by omega) (by omega)]
    refine ⟨((r : Int) - 1 + 1).toNat, by omega, (r : Int) - 1, g2, rfl, rfl, by omega, by omega, ?_, hrel.trans hrel2, r2, hk.trans hk2⟩
    have : ((r : Int) - 1 + 1).toNat = r := by omega
    rw [this]; exact hh2
  · simp only [h0, decide_false, e_fd, e_nck, e_pkt, e_pkf, e_gdtt, e_gdtf, e_gdft, e_gdff, e_ift, e_iff, e_not, e_ln, e_lnT, e_cp, e_cvi, e_ex20, e_ex21, e_ex30, e_ex31, e_ex32, e_add, e_sub, e_mul, e_quo, e_rem, e_and, e_or, e_xor, e_shl, e_shr, e_eql, e_neq, e_lss, e_leq, e_gtr, e_geq, e_beq, e_bne, e_peq1, e_peq2, e_pne1, e_pne2, e_zeq1, e_zeq2, e_zne1, e_zne2, e_feq1, e_fne1, e_feq2, e_fne2, e_seq, e_sne, e_ta1, e_ta2, Nat.zero_add, Nat.add_zero, Bool.not_true, Bool.not_false]
    have e1 : (z + 1).toNat = 0 := by omega
    rw [e1] at hh
    unfold s69_p6
    simp only [e_fd, e_nck, e_pkt, e_pkf, e_gdtt, e_gdtf, e_gdft, e_gdff, e_ift, e_iff, e_not, e_ln, e_lnT, e_cp, e_cvi, e_ex20, e_ex21, e_ex30, e_ex31, e_ex32, e_add, e_sub, e_mul, e_quo, e_rem, e_and, e_or, e_xor, e_shl, e_shr, e_eql, e_neq, e_lss, e_leq, e_gtr, e_geq, e_beq, e_bne, e_peq1, e_peq2, e_pne1, e_pne2, e_zeq1, e_zeq2, e_zne1, e_zne2, e_feq1, e_fne1, e_feq2, e_fne2, e_seq, e_sne, e_ta1, e_ta2, Nat.zero_add, Nat.add_zero, Bool.not_true, Bool.not_false]
    rw [wrap64_id (by omega) (by omega)]
    refine ⟨fun m l w' => ∃ (e : Int) (g' : Nat → Int), m = e.toNat ∧ l = [.slice (some ⟨b, 0, none⟩) n n, I e] ∧ ((n = 0 ∧ e = -1) ∨ (0 ≤ e ∧ e < n ∧ Srt n e.toNat g')) ∧ Rel n g g' ∧ Row w' b 3 ((tab n g').map I) ∧ Kp (fun k => k = b) w w',
      _, ⟨((n : Nat) : Int) - 1, g1, rfl, rfl, ?_, hrel, hr, hk⟩, ?_⟩
    · by_cases hn : n = 0
      · exact .inl ⟨hn, by omega⟩
      · refine .inr ⟨by omega, by omega, ?_, fun i j _ h2 h3 => by omega⟩
        have : (((n : Nat) : Int) - 1).toNat + 1 = n := by omega
        rw [this]; exact hh
    clear hr hh hrel hk
    rintro m l w2 ⟨e, g2, rfl, rfl, hS, hrel, hr, hk⟩
    rw [s69_p5_Fe]
    unfold s69_p4
    simp only [e_fd, e_nck, e_pkt, e_pkf, e_gdtt, e_gdtf, e_gdft, e_gdff, e_ift, e_iff, e_not, e_ln, e_lnT, e_cp, e_cvi, e_ex20, e_ex21, e_ex30, e_ex31, e_ex32, e_add, e_sub, e_mul, e_quo, e_rem, e_and, e_or, e_xor, e_shl, e_shr, e_eql, e_neq, e_lss, e_leq, e_gtr, e_geq, e_beq, e_bne, e_peq1, e_peq2, e_pne1, e_pne2, e_zeq1, e_zeq2, e_zne1, e_zne2, e_feq1, e_fne1, e_feq2, e_fne2, e_seq, e_sne, e_ta1, e_ta2, Nat.zero_add, Nat.add_zero, Bool.not_true, Bool.not_false]
    by_cases he : (0 : Int) < e
    · simp only [he, decide_true, e_fd, e_nck, e_pkt, e_pkf, e_gdtt, e_gdtf, e_gdft, e_gdff, e_ift, e_iff, e_not, e_ln, e_lnT, e_cp, e_cvi, e_ex20, e_ex21, e_ex30, e_ex31, e_ex32, e_add, e_sub, e_mul, e_quo, e_rem, e_and, e_or, e_xor, e_shl, e_shr, e_eql, e_neq, e_lss, e_leq, e_gtr, e_geq, e_beq, e_bne, e_peq1, e_peq2, e_pne1, e_pne2, e_zeq1, e_zeq2, e_zne1, e_zne2, e_feq1, e_fne1, e_feq2, e_fne2, e_seq, e_sne, e_ta1, e_ta2, Nat.zero_add, Nat.add_zero, Bool.not_true, Bool.not_false]
      obtain ⟨k, rfl⟩ : ∃ k : Nat, e = ((k + 1 : Nat) : Int) := ⟨(e - 1).toNat, by omega⟩
      obtain ⟨_, hlt, hS⟩ := hS.resolve_left (fun q => by omega)
      have ek : (((k + 1 : Nat) : Int)).toNat = k + 1 := by omega
      rw [ek] at hS
      unfold s69_p3 s69_p3_d
      have rd := hr.drw
      refine ix_b (i := k + 1) (by omega) (ld_b rd (by omega) ?_)
      refine ix_b (i := 0) (by omega) (ld_b rd (by omega) ?_)
      refine ix_b (i := 0) (by omega) ?_
      refine ix_b (i := k + 1) (by omega) ?_
      refine st1_r rd (by rw [List.length_map, tab_len]; omega) rfl fun w3 r3 hk3 hz3 => ?_
      refine st1_r r3 (by rw [List.length_set, List.length_map, tab_len]; omega) rfl fun w4 r4 hk4 hz4 => ?_
      rw [tab_swp] at r4
      unfold s69_p2
      refine ⟨⟨by omega, by omega, by omega⟩, ?_⟩
      have e1 : (if n = ((0 : Nat) : Int).toNat then (some (⟨b, 0, none⟩ : Addr)) else (some (⟨b, 0, none⟩ : Addr)).map (·.add (((0 : Nat) : Int).toNat * 1))) = some ⟨b, 0, none⟩ := by
        split
        · rfl
        · show some ((⟨b, 0, none⟩ : Addr).add (0 * 1)) = _; rw [add_mk]
      rw [e1]
      have e2 : (((k + 1 : Nat) : Int)).toNat - ((0 : Nat) : Int).toNat = k + 1 := by omega
      have e3 : n - ((0 : Nat) : Int).toNat = n := by omega
      rw [e2, e3]
      refine sift_ok (n := k + 1) (r := 0) (lo := 0) r4 (by omega) hN (Nat.le_refl _) (by omega) hS.hp fun w5 g5 r5 hk5 hrel5 hh5 => ?_
      unfold s69_p1
      simp only [e_fd, e_nck, e_pkt, e_pkf, e_gdtt, e_gdtf, e_gdft, e_gdff, e_ift, e_iff, e_not, e_ln, e_lnT, e_cp, e_cvi, e_ex20, e_ex21, e_ex30, e_ex31, e_ex32, e_add, e_sub, e_mul, e_quo, e_rem, e_and, e_or, e_xor, e_shl, e_shr, e_eql, e_neq, e_lss, e_leq, e_gtr, e_geq, e_beq, e_bne, e_peq1, e_peq2, e_pne1, e_pne2, e_zeq1, e_zeq2, e_zne1, e_zne2, e_feq1, e_fne1, e_feq2, e_fne2, e_seq, e_sne, e_ta1, e_ta2, Nat.zero_add, Nat.add_zero, Bool.not_true, Bool.not_false]
      rw [wrap64_id (by omega) (by omega)]
      have e4 : (((k + 1 : Nat) : Int) - 1) = (k : Int) := by omega
      rw [e4]
      exact ⟨k, by omega, (k : Int), g5, by omega, rfl, .inr ⟨by omega, by omega, by rw [show ((k : Int)).toNat = k by omega]; exact hS.next hrel5 hh5⟩, (hrel.trans (rel_swp (by omega) (by omega))).trans (hrel5.mono (by omega)), r5, (((hk.trans kp_drw).trans hk3).trans hk4).trans hk5⟩
    · simp only [he, decide_false, e_fd, e_nck, e_pkt, e_pkf, e_gdtt, e_gdtf, e_gdft, e_gdff, e_ift, e_iff, e_not, e_ln, e_lnT, e_cp, e_cvi, e_ex20, e_ex21, e_ex30, e_ex31, e_ex32, e_add, e_sub, e_mul, e_quo, e_rem, e_and, e_or, e_xor, e_shl, e_shr, e_eql, e_neq, e_lss, e_leq, e_gtr, e_geq, e_beq, e_bne, e_peq1, e_peq2, e_pne1, e_pne2, e_zeq1, e_zeq2, e_zne1, e_zne2, e_feq1, e_fne1, e_feq2, e_fne2, e_seq, e_sne, e_ta1, e_ta2, Nat.zero_add, Nat.add_zero, Bool.not_true, Bool.not_false]
      refine hK w2 g2 hr hk hrel fun i j hij hjn => ?_
      obtain ⟨q1, q2, hS⟩ := hS.resolve_left (fun q => by omega)
      exact hS.tail i j hij (by omega) hjn
end
end Go.Proofs.Qxb6500895a
