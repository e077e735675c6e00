import Derived.Test.Qxb6500894aE3
import Derived.Test.Qxb6500894aShApp2
namespace Go.Proofs.Qxb6500894a
open Go.Sh Go.RowKit
set_option linter.unusedVariables false
set_option linter.unusedSimpArgs false

/-! ### all values inside a value -/
def wl (W : World) : Nat → Vc → List Vc
  | 0, _ => []
  | f + 1, x => x :: (kidsL W x).flatMap (wl W f)

theorem wl_ok {W : World} : ∀ {f : Nat} {x : Vc}, VOk W f x → ∀ y ∈ wl W f x, VOk W f y
  | 0, x, h, y, hy => h.elim
  | f + 1, x, h, y, hy => by
    unfold wl at hy
    rcases List.mem_cons.1 hy with e | e
    · rw [e]; exact h
    · obtain ⟨k, hk, hyk⟩ := List.mem_flatMap.1 e
      exact (wl_ok (h.2.2 k hk) y hyk).mono (by omega)

theorem VOk.scal {W : World} {f : Nat} {x : Vc} (h : VOk W f x) : x.cells.all Go.Sh.scal = true := by
  cases f with
  | zero => exact h.elim
  | succ f =>
    have : Go.Sh.scal x.lst = true := by
      rcases h.2.1 with ⟨e, _⟩ | ⟨a, cap, e, _⟩ <;> rw [e] <;> rfl
    show (true && (true && (true && (true && (true && (true && (true && (Go.Sh.scal x.lst && true)))))))) = true
    rw [this]; rfl

theorem flat_take {α β : Type} {g : α → List β} {l : List α} {j : Nat} (h : j < l.length) : (l.take (j + 1)).flatMap g = (l.take j).flatMap g ++ g l[j] := by
  rw [List.take_succ_eq_append_getElem h, List.flatMap_append]; simp

theorem flat_take_le {α β : Type} {g : α → List β} (l : List α) (j : Nat) : ((l.take j).flatMap g).length ≤ (l.flatMap g).length := by
  have e : l.flatMap g = (l.take j).flatMap g ++ (l.drop j).flatMap g := by rw [← List.flatMap_append, List.take_append_drop]
  rw [e, List.length_append]; omega

theorem within_ok {W : World} : ∀ (f : Nat) (x : Vc), VOk W f x → (wl W f x).length ≤ 1000000 → ∀ (w : World) (K : Value → World → Prop), Below W.heap.size W w →
    (∀ w' v b, Sl Vc.cells 8 w' 49 (some b) v (wl W f x) → Kp (fun _ => False) w w' → w.heap.size ≤ b → K v w') → cl Try.prog 9 #[.agg x.cells.toArray] K w := by
  intro f
  induction f with
  | zero => intro x hx; exact hx.elim
  | succ f ih =>
    intro x hx hlen w K hbel hK
    have hxs := hx.scal
    obtain ⟨_, hxl, hxk⟩ := hx
    have hxn := hxl.len
    unfold wl at hlen hK
    rw [List.length_cons] at hlen
    apply c9
    unfold s9_p4
    refine nw_r fun w1 r1 hb1 hz1 => ?_
    replace r1 : Row w1 w.heap.size 49 x.cells := r1
    refine ldn_r r1 (Nat.le_of_ble_eq_true rfl) ?_
    refine bsq_r (l := x.cells) rfl fun w2 r2 hb2 hz2 => ?_
    have k2 := hb1.trans hb2
    simp only [e_fd, e_nck, e_pkt, e_pkf, e_gdtt, e_gdtf, e_gdft, e_gdff, e_ift, e_iff, e_not, e_ln, e_lnT, e_cp, e_cvi, e_ex20, e_ex21, e_ex30, e_ex31, e_ex32, e_add, e_sub, e_mul, e_quo, e_rem, e_and, e_or, e_xor, e_shl, e_shr, e_eql, e_neq, e_lss, e_leq, e_gtr, e_geq, e_beq, e_bne, e_peq1, e_peq2, e_pne1, e_pne2, e_zeq1, e_zeq2, e_zne1, e_zne2, e_feq1, e_fne1, e_feq2, e_fne2, e_seq, e_sne, e_ta1, e_ta2, Nat.zero_add, Nat.add_zero, Bool.not_true, Bool.not_false]
    refine ld1_r (hb2.row' r1) (v := x.lst) rfl ?_
    refine hxl.ln ?_
    have hs0 : Sl Vc.cells 8 w2 49 (some w1.heap.size) (.slice (some ⟨w1.heap.size, 0, none⟩) 1 1) [x] := ⟨1, [], rfl, Nat.le_refl _, by simp, by simpa [rows] using r2⟩
    have hz := hb1.size
    refine ⟨fun m l w' => ∃ (j : Nat) (b : Nat) (v : Value), j ≤ (kidsL W x).length ∧ m = (kidsL W x).length - j ∧ l = [v, x.lst, I (kidsL W x).length, I j] ∧ Kp (fun _ => False) w w' ∧ Sl Vc.cells 8 w' 49 (some b) v (x :: ((kidsL W x).take j).flatMap (wl W f)) ∧ w.heap.size ≤ b,
      (kidsL W x).length, ⟨0, _, _, by omega, by omega, rfl, k2, by simpa using hs0, hz⟩, ?_⟩
    rintro m l w3 ⟨j, b, v, hj, hm, rfl, hk3, hs3, hb⟩
    rw [s9_p3_Fe]
    unfold s9_p2
    simp only [e_fd, e_nck, e_pkt, e_pkf, e_gdtt, e_gdtf, e_gdft, e_gdff, e_ift, e_iff, e_not, e_ln, e_lnT, e_cp, e_cvi, e_ex20, e_ex21, e_ex30, e_ex31, e_ex32, e_add, e_sub, e_mul, e_quo, e_rem, e_and, e_or, e_xor, e_shl, e_shr, e_eql, e_neq, e_lss, e_leq, e_gtr, e_geq, e_beq, e_bne, e_peq1, e_peq2, e_pne1, e_pne2, e_zeq1, e_zeq2, e_zne1, e_zne2, e_feq1, e_fne1, e_feq2, e_fne2, e_seq, e_sne, e_ta1, e_ta2, Nat.zero_add, Nat.add_zero, Bool.not_true, Bool.not_false]
    by_cases hlt : j < (kidsL W x).length
    · have hlt' : (j : Int) < ((kidsL W x).length : Int) := by omega
      simp only [hlt', decide_true, e_fd, e_nck, e_pkt, e_pkf, e_gdtt, e_gdtf, e_gdft, e_gdff, e_ift, e_iff, e_not, e_ln, e_lnT, e_cp, e_cvi, e_ex20, e_ex21, e_ex30, e_ex31, e_ex32, e_add, e_sub, e_mul, e_quo, e_rem, e_and, e_or, e_xor, e_shl, e_shr, e_eql, e_neq, e_lss, e_leq, e_gtr, e_geq, e_beq, e_bne, e_peq1, e_peq2, e_pne1, e_pne2, e_zeq1, e_zeq2, e_zne1, e_zne2, e_feq1, e_fne1, e_feq2, e_fne2, e_seq, e_sne, e_ta1, e_ta2, Nat.zero_add, Nat.add_zero, Bool.not_true, Bool.not_false]
      have hb3 : Below W.heap.size W w3 := hbel.trans (hk3.below hbel.size (fun _ _ h => h))
      have hkid := hxk _ (List.getElem_mem hlt)
      have hfl := flat_take_le (g := wl W f) (kidsL W x) (j + 1)
      rw [flat_take hlt, List.length_append] at hfl
      refine hxl.ix hlt fun b1 o1 hc1 => ?_
      refine (hc1.below hb3).ldn rfl ?_
      refine nw_r fun w4 r4 hb4 hz4 => ?_
      refine stn_r r4 rfl (Nat.le_of_ble_eq_true rfl) hkid.scal fun w5 r5 hb5 hz5 => ?_
      replace r5 : Row w5 w3.heap.size 49 (kidsL W x)[j].cells := r5
      have k5 : Kp (fun _ => False) w3 w5 := hb4.then hb5 (by intro y hy (e : y = _); omega)
      refine ldn_r r5 (Nat.le_of_ble_eq_true rfl) ?_
      have hb5' : Below W.heap.size W w5 := hb3.trans (k5.below hb3.size (fun _ _ h => h))
      refine ih _ hkid (by omega) w5 _ hb5' fun w6 v2 b2 hs6 hk6 hb2' => ?_
      have k6 := k5.trans hk6
      have hs3' := hs3.kp' k6
      refine hs3'.app2 Vc.cells_length rfl (fun y hy => (wl_ok hkid y hy).scal) hs6 (by rw [List.length_cons]; omega) (by rw [List.length_cons]; omega) fun w7 v7 ob7 hs7 hk7 ho7 => ?_
      rw [wrap64_id (by omega) (by omega)]
      have hz3 := hk3.size
      have hz6 := k6.size
      obtain ⟨b7, e7, hb7⟩ : ∃ b7, ob7 = some b7 ∧ w.heap.size ≤ b7 := by
        rcases ho7 with e | ⟨c, e, hc⟩
        · exact ⟨b, e, hb⟩
        · exact ⟨c, e, by omega⟩
      subst e7
      refine ⟨(kidsL W x).length - (j + 1), by omega, j + 1, b7, v7, by omega, rfl, by simp, ?_, ?_, hb7⟩
      · exact (hk3.trans k6).then hk7 (by intro y hy (e : some b = some y); have : b = y := Option.some.inj e; omega)
      · rw [flat_take hlt]
        exact hs7
    · have hlt' : ¬ (j : Int) < ((kidsL W x).length : Int) := by omega
      simp only [hlt', decide_false, e_fd, e_nck, e_pkt, e_pkf, e_gdtt, e_gdtf, e_gdft, e_gdff, e_ift, e_iff, e_not, e_ln, e_lnT, e_cp, e_cvi, e_ex20, e_ex21, e_ex30, e_ex31, e_ex32, e_add, e_sub, e_mul, e_quo, e_rem, e_and, e_or, e_xor, e_shl, e_shr, e_eql, e_neq, e_lss, e_leq, e_gtr, e_geq, e_beq, e_bne, e_peq1, e_peq2, e_pne1, e_pne2, e_zeq1, e_zeq2, e_zne1, e_zne2, e_feq1, e_fne1, e_feq2, e_fne2, e_seq, e_sne, e_ta1, e_ta2, Nat.zero_add, Nat.add_zero, Bool.not_true, Bool.not_false]
      unfold s9_p1
      rw [List.take_of_length_le (by omega)] at hs3
      exact hK w3 v b hs3 hk3 hb

/-! ### a record -/
abbrev Pr := ByteArray × Vc
def pcl (p : Pr) : List Value := .string p.1 :: p.2.cells
theorem pcl_length (p : Pr) : (pcl p).length = 9 := rfl
def PAt (W : World) (pv : Value) (ps : List Pr) : Prop :=
  (pv = .slice none 0 0 ∧ ps = []) ∨ ∃ (a : Addr) (cap : Nat), pv = .slice (some a) ps.length cap ∧ ps.length ≤ 140737488351232 ∧ ∀ j (h : j < ps.length), ∃ b o, a.add (j * 9) = ⟨b, o, none⟩ ∧ Cells W b o (pcl ps[j])
section
variable {W w : World} {pv : Value} {ps : List Pr} {K : Value → World → Prop}
theorem PAt.ln (h : PAt W pv ps) (hK : K (I ps.length) w) : lnS pv K w := by
  rcases h with ⟨rfl, rfl⟩ | ⟨a, cap, rfl, _⟩
  · exact hK
  · exact hK
theorem PAt.ix (h : PAt W pv ps) {j : Nat} (hj : j < ps.length) (hK : ∀ b o, Cells W b o (pcl ps[j]) → K (.pointer (some ⟨b, o, none⟩)) w) : ixs 9 pv (I j) K w := by
  rcases h with ⟨rfl, rfl⟩ | ⟨a, cap, rfl, _, h⟩
  · simp at hj
  · refine ⟨⟨by omega, by omega⟩, ?_⟩
    have ej : ((j : Int)).toNat = j := by omega
    obtain ⟨b, o, e, hc⟩ := h j hj
    rw [ej, e]
    exact hK b o hc
theorem PAt.len (h : PAt W pv ps) : ps.length ≤ 140737488351232 := by
  rcases h with ⟨rfl, rfl⟩ | ⟨a, cap, rfl, h, _⟩
  · simp
  · exact h
end

/-- all values of a record -/
def vals (W : World) (F : Nat) (ps : List Pr) : List Vc := ps.flatMap fun p => wl W F p.2

theorem values_ok {W w : World} {F : Nat} {rc : List Value} {pv : Value} {ps : List Pr} {K : Value → World → Prop} (hbel : Below W.heap.size W w) (hl : rc.length = 14) (h13 : rc[13]? = some pv) (hp : PAt W pv ps)
    (hv : ∀ p ∈ ps, VOk W F p.2) (hn : (vals W F ps).length ≤ 1000000)
    (hK : ∀ w' v ob, Sl Vc.cells 8 w' 49 ob v (vals W F ps) → Kp (fun _ => False) w w' → (∀ b, ob = some b → w.heap.size ≤ b) → K v w') : cl Try.prog 5 #[.agg rc.toArray] K w := by
  apply c5
  unfold s5_p4
  have hpn := hp.len
  refine nw_r fun w1 r1 hb1 hz1 => ?_
  replace r1 : Row w1 w.heap.size 36 rc := by simpa [Value.cells] using r1
  simp only [e_fd, e_nck, e_pkt, e_pkf, e_gdtt, e_gdtf, e_gdft, e_gdff, e_ift, e_iff, e_not, e_ln, e_lnT, e_cp, e_cvi, e_ex20, e_ex21, e_ex30, e_ex31, e_ex32, e_add, e_sub, e_mul, e_quo, e_rem, e_and, e_or, e_xor, e_shl, e_shr, e_eql, e_neq, e_lss, e_leq, e_gtr, e_geq, e_beq, e_bne, e_peq1, e_peq2, e_pne1, e_pne2, e_zeq1, e_zeq2, e_zne1, e_zne2, e_feq1, e_fne1, e_feq2, e_fne2, e_seq, e_sne, e_ta1, e_ta2, Nat.zero_add, Nat.add_zero, Bool.not_true, Bool.not_false]
  refine ld1_r r1 h13 ?_
  refine hp.ln ?_
  refine ⟨fun m l w' => ∃ (j : Nat) (ob : Option Nat) (v : Value), j ≤ ps.length ∧ m = ps.length - j ∧ l = [v, pv, I ps.length, I j] ∧ Kp (fun _ => False) w w' ∧ Sl Vc.cells 8 w' 49 ob v (vals W F (ps.take j)) ∧ ∀ b, ob = some b → w.heap.size ≤ b,
    ps.length, ⟨0, none, _, by omega, by omega, rfl, hb1, ⟨rfl, rfl⟩, by simp⟩, ?_⟩
  rintro m l w3 ⟨j, ob, v, hj, hm, rfl, hk3, hs3, hb⟩
  rw [s5_p3_Fe]
  unfold s5_p2
  simp only [e_fd, e_nck, e_pkt, e_pkf, e_gdtt, e_gdtf, e_gdft, e_gdff, e_ift, e_iff, e_not, e_ln, e_lnT, e_cp, e_cvi, e_ex20, e_ex21, e_ex30, e_ex31, e_ex32, e_add, e_sub, e_mul, e_quo, e_rem, e_and, e_or, e_xor, e_shl, e_shr, e_eql, e_neq, e_lss, e_leq, e_gtr, e_geq, e_beq, e_bne, e_peq1, e_peq2, e_pne1, e_pne2, e_zeq1, e_zeq2, e_zne1, e_zne2, e_feq1, e_fne1, e_feq2, e_fne2, e_seq, e_sne, e_ta1, e_ta2, Nat.zero_add, Nat.add_zero, Bool.not_true, Bool.not_false]
  by_cases hlt : j < ps.length
  · have hlt' : (j : Int) < (ps.length : Int) := by omega
    simp only [hlt', decide_true, e_fd, e_nck, e_pkt, e_pkf, e_gdtt, e_gdtf, e_gdft, e_gdff, e_ift, e_iff, e_not, e_ln, e_lnT, e_cp, e_cvi, e_ex20, e_ex21, e_ex30, e_ex31, e_ex32, e_add, e_sub, e_mul, e_quo, e_rem, e_and, e_or, e_xor, e_shl, e_shr, e_eql, e_neq, e_lss, e_leq, e_gtr, e_geq, e_beq, e_bne, e_peq1, e_peq2, e_pne1, e_pne2, e_zeq1, e_zeq2, e_zne1, e_zne2, e_feq1, e_fne1, e_feq2, e_fne2, e_seq, e_sne, e_ta1, e_ta2, Nat.zero_add, Nat.add_zero, Bool.not_true, Bool.not_false]
    have hb3 : Below W.heap.size W w3 := hbel.trans (hk3.below hbel.size (fun _ _ h => h))
    have hval := hv _ (List.getElem_mem hlt)
    have hfl := flat_take_le (g := fun p : Pr => wl W F p.2) ps (j + 1)
    rw [flat_take hlt, List.length_append] at hfl
    have hn' : (List.flatMap (fun p : Pr => wl W F p.2) ps).length ≤ 1000000 := hn
    have hfl2 : (vals W F (ps.take j)).length + (wl W F ps[j].2).length ≤ 1000000 := by unfold vals; omega
    refine hp.ix hlt fun b1 o1 hc1 => ?_
    refine (hc1.below hb3).ldn rfl ?_
    refine nw_r fun w4 r4 hb4 hz4 => ?_
    have hsc : (pcl ps[j]).all scal = true := by
      have := hval.scal
      show (true && ps[j].2.cells.all scal) = true
      rw [this]; rfl
    refine stn_r r4 rfl (Nat.le_of_ble_eq_true rfl) hsc fun w5 r5 hb5 hz5 => ?_
    replace r5 : Row w5 w3.heap.size 52 (pcl ps[j]) := r5
    have k5 : Kp (fun _ => False) w3 w5 := hb4.then hb5 (by intro y hy (e : y = _); omega)
    simp only [e_fd, e_nck, e_pkt, e_pkf, e_gdtt, e_gdtf, e_gdft, e_gdff, e_ift, e_iff, e_not, e_ln, e_lnT, e_cp, e_cvi, e_ex20, e_ex21, e_ex30, e_ex31, e_ex32, e_add, e_sub, e_mul, e_quo, e_rem, e_and, e_or, e_xor, e_shl, e_shr, e_eql, e_neq, e_lss, e_leq, e_gtr, e_geq, e_beq, e_bne, e_peq1, e_peq2, e_pne1, e_pne2, e_zeq1, e_zeq2, e_zne1, e_zne2, e_feq1, e_fne1, e_feq2, e_fne2, e_seq, e_sne, e_ta1, e_ta2, Nat.zero_add, Nat.add_zero, Bool.not_true, Bool.not_false]
    refine ldn_r r5 (Nat.le_of_ble_eq_true rfl) ?_
    have hb5' : Below W.heap.size W w5 := hb3.trans (k5.below hb3.size (fun _ _ h => h))
    refine within_ok F ps[j].2 hval (by omega) w5 _ hb5' fun w6 v2 b2 hs6 hk6 hb2' => ?_
    have k6 := k5.trans hk6
    have hs3' := hs3.kp' k6
    refine hs3'.app2 Vc.cells_length rfl (fun y hy => (wl_ok hval y hy).scal) hs6 (by omega) (by omega) fun w7 v7 ob7 hs7 hk7 ho7 => ?_
    rw [wrap64_id (by omega) (by omega)]
    have hz3 := hk3.size
    have hz6 := k6.size
    refine ⟨ps.length - (j + 1), by omega, j + 1, ob7, v7, by omega, rfl, by simp, ?_, ?_, ?_⟩
    · exact (hk3.trans k6).then hk7 (by intro y hy e; have := hb y e; omega)
    · unfold vals at hs7 ⊢
      rw [flat_take hlt]
      exact hs7
    · intro y hy
      rcases ho7 with e | ⟨c, e, hc⟩
      · exact hb y (e ▸ hy)
      · rw [e] at hy
        have : c = y := by simpa using hy
        omega
  · have hlt' : ¬ (j : Int) < (ps.length : Int) := by omega
    simp only [hlt', decide_false, e_fd, e_nck, e_pkt, e_pkf, e_gdtt, e_gdtf, e_gdft, e_gdff, e_ift, e_iff, e_not, e_ln, e_lnT, e_cp, e_cvi, e_ex20, e_ex21, e_ex30, e_ex31, e_ex32, e_add, e_sub, e_mul, e_quo, e_rem, e_and, e_or, e_xor, e_shl, e_shr, e_eql, e_neq, e_lss, e_leq, e_gtr, e_geq, e_beq, e_bne, e_peq1, e_peq2, e_pne1, e_pne2, e_zeq1, e_zeq2, e_zne1, e_zne2, e_feq1, e_fne1, e_feq2, e_fne2, e_seq, e_sne, e_ta1, e_ta2, Nat.zero_add, Nat.add_zero, Bool.not_true, Bool.not_false]
    unfold s5_p1
    rw [List.take_of_length_le (by omega)] at hs3
    exact hK w3 v ob hs3 hk3 hb
end Go.Proofs.Qxb6500894a
