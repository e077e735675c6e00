import Derived.Test.Qxb6500897aP1
namespace Go.Proofs.Qxb6500897a
open Go.Sh Go.RowKit
set_option linter.unusedVariables false
set_option linter.unusedSimpArgs false

/-- the ring of one attraction, in memory -/
structure Tab where
  att : Att
  ob : Nat
  ab : Nat
  occ : List Int
  adm : List Int

def Tab.cells (t : Tab) : List Value :=
  [I t.att.cap, I t.att.dwell, I t.att.q0, I t.att.q1, I t.att.q2, I (t.att.dwell - 1), I t.occ.length,
    .slice (some ⟨t.ob, 0, none⟩) t.occ.length t.occ.length, .slice (some ⟨t.ab, 0, none⟩) t.adm.length t.adm.length]
theorem Tab.cells_length (t : Tab) : t.cells.length = 9 := rfl

/-- how many cells the ring has -/
def ringLen (H : Int) (a : Att) : Nat := (H + 2 * (a.dwell - 1)).toNat

def newTab (H : Int) (a : Att) (ob ab : Nat) : Tab := ⟨a, ob, ab, List.replicate (ringLen H a) 0, List.replicate (3 * ringLen H a) 0⟩

theorem newTable_ok {H : Int} {a : Att} (h1 : 1 ≤ H) (h2 : H ≤ 1048576) (h3 : 1 ≤ a.dwell) (h4 : a.dwell ≤ 65536) {K : Value → World → Prop} {w : World}
    (hK : ∀ w' ob ab, w.heap.size ≤ ob → w.heap.size ≤ ab → ob ≠ ab → Row w' ob 3 ((newTab H a ob ab).occ.map I) → Row w' ab 3 ((newTab H a ob ab).adm.map I) →
      Kp (fun _ => False) w w' → K (.agg (newTab H a ob ab).cells.toArray) w') :
    cl Try.prog 70 #[.agg a.cells.toArray, I H] K w := by
  have eL : ((ringLen H a : Nat) : Int) = H + 2 * (a.dwell - 1) := by unfold ringLen; omega
  have eL3 : ((3 * ringLen H a : Nat) : Int) = (H + 2 * (a.dwell - 1)) * 3 := by unfold ringLen; omega
  have bL : ringLen H a ≤ 2000000 := by unfold ringLen; omega
  have er : ∀ n : Nat, List.replicate n (I 0) = (List.replicate n (0 : Int)).map I := fun n => by simp
  apply c70
  unfold s70_p3
  refine nw_r fun w1 (r1 : Row w1 _ 59 [I a.cap, I a.dwell, I a.q0, I a.q1, I a.q2]) hb1 hz1 => ?_
  refine nw_r fun w2 r2 hb2 hz2 => ?_
  have r1' := hb2.row' r1
  simp only [e_fd, e_nck, e_pkt, e_pkf, e_gdtt, e_gdtf, e_gdft, e_gdff, e_ift, e_iff, e_not, e_ln, e_lnT, e_cp, e_cvi, e_ex20, e_ex21, e_ex30, e_ex31, e_ex32, e_add, e_sub, e_mul, e_quo, e_rem, e_and, e_or, e_xor, e_shl, e_shr, e_eql, e_neq, e_lss, e_leq, e_gtr, e_geq, e_beq, e_bne, e_peq1, e_peq2, e_pne1, e_pne2, e_zeq1, e_zeq2, e_zne1, e_zne2, e_feq1, e_fne1, e_feq2, e_fne2, e_seq, e_sne, e_ta1, e_ta2, Nat.zero_add, Nat.add_zero, Bool.not_true, Bool.not_false]
  refine ld1_r r1' rfl ?_
  simp only [e_fd, e_nck, e_pkt, e_pkf, e_gdtt, e_gdtf, e_gdft, e_gdff, e_ift, e_iff, e_not, e_ln, e_lnT, e_cp, e_cvi, e_ex20, e_ex21, e_ex30, e_ex31, e_ex32, e_add, e_sub, e_mul, e_quo, e_rem, e_and, e_or, e_xor, e_shl, e_shr, e_eql, e_neq, e_lss, e_leq, e_gtr, e_geq, e_beq, e_bne, e_peq1, e_peq2, e_pne1, e_pne2, e_zeq1, e_zeq2, e_zne1, e_zne2, e_feq1, e_fne1, e_feq2, e_fne2, e_seq, e_sne, e_ta1, e_ta2, Nat.zero_add, Nat.add_zero, Bool.not_true, Bool.not_false]
  rw [wrap64_id (n := a.dwell - 1) (by omega) (by omega), wrap64_id (n := 2 * (a.dwell - 1)) (by omega) (by omega), wrap64_id (n := H + 2 * (a.dwell - 1)) (by omega) (by omega)]
  unfold s70_p2 s70_p2_d
  refine ldn_r r1'.drw (Nat.le_of_ble_eq_true rfl) ?_
  simp only [e_fd, e_nck, e_pkt, e_pkf, e_gdtt, e_gdtf, e_gdft, e_gdff, e_ift, e_iff, e_not, e_ln, e_lnT, e_cp, e_cvi, e_ex20, e_ex21, e_ex30, e_ex31, e_ex32, e_add, e_sub, e_mul, e_quo, e_rem, e_and, e_or, e_xor, e_shl, e_shr, e_eql, e_neq, e_lss, e_leq, e_gtr, e_geq, e_beq, e_bne, e_peq1, e_peq2, e_pne1, e_pne2, e_zeq1, e_zeq2, e_zne1, e_zne2, e_feq1, e_fne1, e_feq2, e_fne2, e_seq, e_sne, e_ta1, e_ta2, Nat.zero_add, Nat.add_zero, Bool.not_true, Bool.not_false]
  rw [wrap64_id (by omega) (by omega), ← eL3, ← eL]
  have hb12 := hb1.trans hb2
  constructor
  · refine mks_r (by omega) (by omega) fun w3 r3 hb3 hz3 => ⟨hb3.below', ?_⟩
    refine mks_r (by omega) (by omega) fun w4 r4 hb4 hz4 => ⟨(hb3.trans hb4).below', ?_⟩
    refine bdq_r (l := (newTab H a w2.heap.size w3.heap.size).cells) ?_ ?_
    · simp [newTab, Tab.cells]; rfl
    refine stn_r (hb4.row' (hb3.undrw.row' r2)) rfl (by simp) rfl fun w5 (r5 : Row w5 _ 102 (newTab H a w2.heap.size w3.heap.size).cells) hb5 hz5 => ?_
    unfold s70_p1
    refine ldn_r r5 (Nat.le_of_ble_eq_true rfl) ?_
    simp only [drw_heap] at hz3
    rw [er] at r3 r4
    exact hK w5 w2.heap.size w3.heap.size (by omega) (by omega) (by omega) (hb5.row (hb4.row' r3) (by intro (e : w2.heap.size = _); omega)) (hb5.row r4 (by intro (e : w3.heap.size = _); omega))
      (((hb12.trans hb3.undrw).trans hb4).then hb5 (by intro k hk (e : k = _); omega))
  · refine mks_r (by omega) (by omega) fun w3 r3 hb3 hz3 => ⟨hb3.below', ?_⟩
    refine mks_r (by omega) (by omega) fun w4 r4 hb4 hz4 => ⟨(hb3.trans hb4).below', ?_⟩
    refine bdq_r (l := (newTab H a w3.heap.size w2.heap.size).cells) ?_ ?_
    · simp [newTab, Tab.cells]; rfl
    refine stn_r (hb4.row' (hb3.undrw.row' r2)) rfl (by simp) rfl fun w5 (r5 : Row w5 _ 102 (newTab H a w3.heap.size w2.heap.size).cells) hb5 hz5 => ?_
    unfold s70_p1
    refine ldn_r r5 (Nat.le_of_ble_eq_true rfl) ?_
    simp only [drw_heap] at hz3
    rw [er] at r3 r4
    exact hK w5 w3.heap.size w2.heap.size (by omega) (by omega) (by omega) (hb5.row r4 (by intro (e : w3.heap.size = _); omega)) (hb5.row (hb4.row' r3) (by intro (e : w2.heap.size = _); omega))
      (((hb12.trans hb3.undrw).trans hb4).then hb5 (by intro k hk (e : k = _); omega))
end Go.Proofs.Qxb6500897a
