import Derived.Test.Qxb6500897aP33
import Derived.Test.Qxb6500897aShEq2
namespace Go.Proofs.Qxb6500897a
open Go.Sh Go.RowKit
set_option linter.unusedVariables false
set_option linter.unusedSimpArgs false

/-! ### views -/
structure Ctr where
  occ : Int
  a0 : Int
  a1 : Int
  a2 : Int
def Ctr.cells (c : Ctr) : List Value := [I c.occ, I c.a0, I c.a1, I c.a2]
theorem Ctr.cells_length (c : Ctr) : c.cells.length = 4 := rfl

/-- a row of a view, in memory -/
structure It where
  rb : Nat
  rv : Value
  cs : List Ctr

def i1 (n : Int) : List Value := [I n]
theorem i1_length (n : Int) : (i1 n).length = 1 := rfl
def it1 (x : It) : List Value := [x.rv]
theorem it1_length (x : It) : (it1 x).length = 1 := rfl

structure VP (w : World) (fob : Option Nat) (fv : Value) (sob : Option Nat) (sv : Value) (fs : List Int) (its : List It) (lo : Nat) : Prop where
  f : Sl i1 1 w 3 fob fv fs
  s : Sl it1 1 w 67 sob sv its
  r : ∀ x ∈ its, Sl Ctr.cells 4 w 61 (some x.rb) x.rv x.cs
  fl : ∀ b, fob = some b → lo ≤ b
  sl : ∀ b, sob = some b → lo ≤ b
  rl : ∀ x ∈ its, lo ≤ x.rb
  nd : (its.map (·.rb)).Nodup

theorem VP.kpS {S : Nat → Prop} {w w' : World} {fob : Option Nat} {fv : Value} {sob : Option Nat} {sv : Value} {fs : List Int} {its : List It} {lo : Nat} (h : VP w fob fv sob sv fs its lo) (hk : Kp S w w')
    (hS : ∀ k, S k → k < lo ∨ ∃ t l, Row w k t l ∧ t ≠ 3 ∧ t ≠ 67 ∧ t ≠ 61) : VP w' fob fv sob sv fs its lo := by
  refine ⟨h.f.kp hk fun b hb hs => ?_, h.s.kp hk fun b hb hs => ?_, fun x hx => (h.r x hx).kp hk fun b hb hs => ?_, h.fl, h.sl, h.rl, h.nd⟩
  · rcases hS b hs with q | ⟨t, l, hr, q1, q2, q3⟩
    · have := h.fl b hb; omega
    · exact h.f.ne hr (Ne.symm q1) hb
  · rcases hS b hs with q | ⟨t, l, hr, q1, q2, q3⟩
    · have := h.sl b hb; omega
    · exact h.s.ne hr (Ne.symm q2) hb
  · rcases hS b hs with q | ⟨t, l, hr, q1, q2, q3⟩
    · have := h.rl x hx
      have : x.rb = b := by simpa using hb
      omega
    · exact (h.r x hx).ne hr (Ne.symm q3) hb
theorem VP.kp {w w' : World} {fob : Option Nat} {fv : Value} {sob : Option Nat} {sv : Value} {fs : List Int} {its : List It} {lo : Nat} (h : VP w fob fv sob sv fs its lo) (hk : Kp (fun _ => False) w w') : VP w' fob fv sob sv fs its lo :=
  h.kpS hk fun _ hs => hs.elim

/-- what the tables show -/
def ctrOf (L : List Ent) (a : Nat) (v : Int) : Ctr := ⟨ins L a (dw a) v, ent L a v 0, ent L a v 1, ent L a v 2⟩
def rlen (a : Nat) : Nat := (6 + 2 * (dw a - 1)).toNat
def fst1 (now : Int) (a : Nat) : Int := now - (dw a - 1)
def rowTo (now : Int) (L : List Ent) (a k : Nat) : List Ctr := (List.range k).map fun i => ctrOf L a (fst1 now a + (i : Nat))
def rowOf (now : Int) (L : List Ent) (a : Nat) : List Ctr := rowTo now L a (rlen a)
theorem rowTo_succ (now : Int) (L : List Ent) (a k : Nat) : rowTo now L a (k + 1) = rowTo now L a k ++ [ctrOf L a (fst1 now a + (k : Nat))] := by simp [rowTo, List.range_succ]
theorem rowTo_length (now : Int) (L : List Ent) (a k : Nat) : (rowTo now L a k).length = k := by simp [rowTo]

section
variable {W w0 w : World} {d tb : Nat} {now : Int} {ts : List Tab} {L : List Ent} {K : Value → World → Prop} {B1 B2 : List Value → World → Prop} {t2 t3 t17 t18 : Value}

theorem St.adm (h : St W w d tb now ts L) {a c : Nat} {s : Int} {K : Value → World → Prop} (ha : a < 4) (hc : c < 3) (s0 : fst1 now a ≤ s) (s1 : s ≤ now + 5 + (dw a - 1)) (hK : ∀ w', Kp (fun _ => False) w w' → K (.tuple #[I (ent L a s c), .nilIface]) w') :
    cl Try.prog 51 #[.pointer (some ⟨d, 0, none⟩), I a, I s, I c] K w := by
  have hdw : (pa a).dwell = dw a := rfl
  have hb := pa_bd a
  have n0 := h.good.inv.n0
  have n1 := h.good.inv.n1
  unfold fst1 at s0
  have et : ((a : Int)).toNat = a := by omega
  have etc : ((c : Int)).toNat = c := by omega
  have hc0 : chkP now a s c 1 2 = 0 := by
    unfold chkP
    rw [et, if_neg (by omega), if_neg (by omega), if_neg (by omega), if_neg]
    simp; omega
  have hal : a < ts.length := by rw [h.good.len]; omega
  refine Admitted_ok h.sys fun w' v hv hk => ?_
  rw [h.good.chk, hc0] at hv
  rw [h.good.chk, if_pos hc0, tabOf_eq (by simpa using hal)]
  simp only [et, etc]
  rw [(h.good.ring a hal).adm s c (by omega) (by omega) hc]
  rcases hv with ⟨_, rfl⟩ | ⟨q, _⟩
  · exact hK w' hk
  · exact absurd rfl q

theorem St.occ (h : St W w d tb now ts L) {a : Nat} {s : Int} {K : Value → World → Prop} (ha : a < 4) (s0 : fst1 now a ≤ s) (s1 : s ≤ now + 5 + (dw a - 1)) (hK : ∀ w', Kp (fun _ => False) w w' → K (.tuple #[I (ins L a (dw a) s), .nilIface]) w') :
    cl Try.prog 23 #[.pointer (some ⟨d, 0, none⟩), I a, I s] K w := by
  have hdw : (pa a).dwell = dw a := rfl
  have hb := pa_bd a
  have n0 := h.good.inv.n0
  have n1 := h.good.inv.n1
  unfold fst1 at s0
  have et : ((a : Int)).toNat = a := by omega
  have hc0 : chkP now a s 0 1 2 = 0 := by
    unfold chkP
    rw [et, if_neg (by omega), if_neg (by omega), if_neg (by omega), if_neg]
    simp; omega
  have hal : a < ts.length := by rw [h.good.len]; omega
  refine Occupancy_ok h.sys fun w' v hv hk => ?_
  rw [h.good.chk, hc0] at hv
  rw [h.good.chk, if_pos hc0, tabOf_eq (by simpa using hal)]
  simp only [et]
  rw [(h.good.ring a hal).occ s (by omega) (by omega)]
  rcases hv with ⟨_, rfl⟩ | ⟨q, _⟩
  · exact hK w' hk
  · exact absurd rfl q

theorem St.win (h : St W w d tb now ts L) {a : Nat} {K : Value → World → Prop} (ha : a < 4) (hK : ∀ w', Kp (fun _ => False) w w' → K (.tuple #[I (fst1 now a), I (now + 5 + (dw a - 1)), .nilIface]) w') :
    cl Try.prog 22 #[.pointer (some ⟨d, 0, none⟩), I a] K w := by
  have hal : a < ts.length := by rw [h.good.len]; omega
  refine Window_ok h.sys hal fun w' hk => ?_
  rw [(h.good.ring a hal).att]
  exact hK w' hk

/-- the classes of one slot -/
theorem look_cls {cb a : Nat} {s : Int} {fv lv rw_ : Value} (h : St W w d tb now ts L) (ha : a < 4) (s0 : fst1 now a ≤ s) (s1 : s ≤ now + 5 + (dw a - 1)) (hr : Row w cb 61 [I (ins L a (dw a) s), I 0, I 0, I 0])
    (hcb : ∀ k, k < w0.heap.size → k ≠ cb) (hcb2 : W.heap.size ≤ cb)
    (hK : ∀ w', Kp (fun k => k = cb) w w' → Row w' cb 61 (ctrOf L a s).cells → s20_p5 K B1 B2 (ptr d) t2 t3 (I a) fv lv rw_ (I s) (ptr cb) t17 t18 w') :
    s20_p9 K B1 B2 (ptr d) t2 t3 (I a) fv lv rw_ (I s) (ptr cb) t17 t18 w := by
  unfold s20_p9
  have hnot := h.tabs.not hr (by decide) (by decide) (by decide)
  refine ⟨fun m l w' => ∃ j : Nat, j ≤ 3 ∧ m = 3 - j ∧ l = [ptr d, t2, t3, I a, fv, lv, rw_, I s, ptr cb, t17, t18, I j] ∧ Kp (fun k => k = cb) w w' ∧
      Row w' cb 61 [I (ins L a (dw a) s), I (if 0 < j then ent L a s 0 else 0), I (if 1 < j then ent L a s 1 else 0), I (if 2 < j then ent L a s 2 else 0)],
    3, ⟨0, by omega, by omega, rfl, Kp.refl _ _, hr⟩, ?_⟩
  rintro m l w1 ⟨j, hj, hm, rfl, hk1, hr1⟩
  rw [s20_p8_Fe]
  unfold s20_p7
  simp only [e_fd, e_nck, e_pkt, e_pkf, e_gdtt, e_gdtf, e_gdft, e_gdff, e_ift, e_iff, e_not, e_ln, e_lnT, e_cp, e_cvi, e_ex20, e_ex21, e_ex30, e_ex31, e_ex32, e_add, e_sub, e_mul, e_quo, e_rem, e_and, e_or, e_xor, e_shl, e_shr, e_eql, e_neq, e_lss, e_leq, e_gtr, e_geq, e_beq, e_bne, e_peq1, e_peq2, e_pne1, e_pne2, e_zeq1, e_zeq2, e_zne1, e_zne2, e_feq1, e_fne1, e_feq2, e_fne2, e_seq, e_sne, e_ta1, e_ta2, Nat.zero_add, Nat.add_zero, Bool.not_true, Bool.not_false]
  have h1 : St W w1 d tb now ts L := h.kpS hk1 fun k (e : k = cb) => by rw [e]; exact ⟨hcb2, hnot⟩
  by_cases hlt : j < 3
  · have hlt' : (j : Int) < 3 := by omega
    simp only [hlt', decide_true, e_fd, e_nck, e_pkt, e_pkf, e_gdtt, e_gdtf, e_gdft, e_gdff, e_ift, e_iff, e_not, e_ln, e_lnT, e_cp, e_cvi, e_ex20, e_ex21, e_ex30, e_ex31, e_ex32, e_add, e_sub, e_mul, e_quo, e_rem, e_and, e_or, e_xor, e_shl, e_shr, e_eql, e_neq, e_lss, e_leq, e_gtr, e_geq, e_beq, e_bne, e_peq1, e_peq2, e_pne1, e_pne2, e_zeq1, e_zeq2, e_zne1, e_zne2, e_feq1, e_fne1, e_feq2, e_fne2, e_seq, e_sne, e_ta1, e_ta2, Nat.zero_add, Nat.add_zero, Bool.not_true, Bool.not_false]
    refine h1.adm ha hlt s0 s1 fun w2 hk2 => ?_
    have hr2 := hk2.row' hr1
    unfold ptr
    simp only [e_fd, e_nck, e_pkt, e_pkf, e_gdtt, e_gdtf, e_gdft, e_gdff, e_ift, e_iff, e_not, e_ln, e_lnT, e_cp, e_cvi, e_ex20, e_ex21, e_ex30, e_ex31, e_ex32, e_add, e_sub, e_mul, e_quo, e_rem, e_and, e_or, e_xor, e_shl, e_shr, e_eql, e_neq, e_lss, e_leq, e_gtr, e_geq, e_beq, e_bne, e_peq1, e_peq2, e_pne1, e_pne2, e_zeq1, e_zeq2, e_zne1, e_zne2, e_feq1, e_fne1, e_feq2, e_fne2, e_seq, e_sne, e_ta1, e_ta2, Nat.zero_add, Nat.add_zero, Bool.not_true, Bool.not_false]
    refine ⟨⟨by omega, by omega⟩, ?_⟩
    have ej : ((j : Int)).toNat = j := by omega
    simp only [ej, add_mk, Nat.mul_one, Nat.zero_add]
    refine st1_r hr2 (by simp; omega) rfl fun w3 r3 hk3 hz3 => ?_
    unfold s20_p6
    simp only [e_fd, e_nck, e_pkt, e_pkf, e_gdtt, e_gdtf, e_gdft, e_gdff, e_ift, e_iff, e_not, e_ln, e_lnT, e_cp, e_cvi, e_ex20, e_ex21, e_ex30, e_ex31, e_ex32, e_add, e_sub, e_mul, e_quo, e_rem, e_and, e_or, e_xor, e_shl, e_shr, e_eql, e_neq, e_lss, e_leq, e_gtr, e_geq, e_beq, e_bne, e_peq1, e_peq2, e_pne1, e_pne2, e_zeq1, e_zeq2, e_zne1, e_zne2, e_feq1, e_fne1, e_feq2, e_fne2, e_seq, e_sne, e_ta1, e_ta2, Nat.zero_add, Nat.add_zero, Bool.not_true, Bool.not_false]
    rw [wrap64_id (by omega) (by omega)]
    refine ⟨3 - (j + 1), by omega, j + 1, by omega, rfl, by simp [ptr], (hk1.trans hk2.none).trans hk3, ?_⟩
    match j, hlt with
    | 0, _ => exact r3
    | 1, _ => exact r3
    | 2, _ => exact r3
  · have hlt' : ¬ (j : Int) < 3 := by omega
    simp only [hlt', decide_false, e_fd, e_nck, e_pkt, e_pkf, e_gdtt, e_gdtf, e_gdft, e_gdff, e_ift, e_iff, e_not, e_ln, e_lnT, e_cp, e_cvi, e_ex20, e_ex21, e_ex30, e_ex31, e_ex32, e_add, e_sub, e_mul, e_quo, e_rem, e_and, e_or, e_xor, e_shl, e_shr, e_eql, e_neq, e_lss, e_leq, e_gtr, e_geq, e_beq, e_bne, e_peq1, e_peq2, e_pne1, e_pne2, e_zeq1, e_zeq2, e_zne1, e_zne2, e_feq1, e_fne1, e_feq2, e_fne2, e_seq, e_sne, e_ta1, e_ta2, Nat.zero_add, Nat.add_zero, Bool.not_true, Bool.not_false]
    have : j = 3 := by omega
    subst this
    exact hK w1 hk1 hr1
end
end Go.Proofs.Qxb6500897a
