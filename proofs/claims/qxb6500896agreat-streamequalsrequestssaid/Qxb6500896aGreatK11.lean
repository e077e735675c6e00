import Derived.Test.Qxb6500896aGreatK10
namespace Go.Proofs.Qxb6500896aGreat
open Go.Sh Go.RowKit
set_option linter.unusedVariables false
set_option linter.unusedSimpArgs false

def zRec : Rec := ⟨0, 0, 0, 0, 0, 0, []⟩
theorem seven {l : List Value} {i : Nat} {p : Rec × Value} (h : ∀ j, j < 7 → l[i * 7 + j]? = (rC p)[j]?) (hl : i * 7 + 7 ≤ l.length) : (l.drop (i * 7)).take 7 = rC p := by
  apply List.ext_getElem?
  intro j
  rcases Nat.lt_or_ge j 7 with q | q
  · rw [List.getElem?_take_of_lt q, List.getElem?_drop, h j q]
  · rw [List.getElem?_eq_none (by rw [List.length_take]; omega), List.getElem?_eq_none (by rw [rC_len]; omega)]
section
variable {F M M' S : Nat → Prop} {w w' w1 : World} {v rv : Value} {t : Nat} {rob : Option Nat} {C : Cfg} {rs : List Rec} {K : Value → World → Prop}
/-- a copy of a record -/
theorem get_ok {id : Int} (hid : small id ∨ (0 ≤ id ∧ id ≤ 9223372036854775807)) (h : Tb M w t rob C rs) (hb : ∀ r ∈ rs, r.legs.length ≤ 1000000)
    (hno : ¬ (1 ≤ id ∧ id ≤ ((rs.length : Nat) : Int)) → ∀ w', Kp Emp w w' → K (.tuple #[.agg (rC (zRec, nilS)).toArray, .bool false]) w')
    (hyes : ∀ (i : Nat) (hi : i < rs.length), id = ((i + 1 : Nat) : Int) → ∀ w' lv b, Kp Emp w w' → Nb w w' b → Sl lC 2 w' 88 (some b) lv rs[i].legs → K (.tuple #[.agg (rC (rs[i], lv)).toArray, .bool true]) w') : cl Tryz.prog 163 #[P t 0, I id] K w := by
  apply c163
  unfold s163_p1
  refine nw_r fun w1 r1 hk1 hz1 => ?_
  have h1 := h.kp' hk1
  refine find_ok hid h1 (fun hn => ?_) (fun i b l p hi hlt hp hro hrow hj hle hlegs => ?_)
  · simp only [e_fd, e_nck, e_pkt, e_pkf, e_gdtt, e_gdtf, e_gdft, e_gdff, e_ift, e_iff, e_not, e_ln, e_lnT, e_cp, e_cvi, e_ex20, e_ex21, e_ex30, e_ex31, e_ex32, e_add, e_sub, e_mul, e_quo, e_rem, e_and, e_or, e_xor, e_shl, e_shr, e_eql, e_neq, e_lss, e_leq, e_gtr, e_geq, e_beq, e_bne, e_peq1, e_peq2, e_pne1, e_pne2, e_zeq1, e_zeq2, e_zne1, e_zne2, e_feq1, e_fne1, e_feq2, e_fne2, e_seq, e_sne, e_ta1, e_ta2, Nat.zero_add, Nat.add_zero, Bool.not_true, Bool.not_false]
    refine bdq_r (l := rC (zRec, nilS)) rfl ?_
    refine stn_r (cs := rC (zRec, nilS)) r1 rfl (show 0 + 7 ≤ 7 by decide) rfl fun w2 r2 hk2 hz2 => ?_
    refine ldn_r r2 (show 0 + 7 ≤ _ by simp [rC]) ?_
    exact hno hn w2 (hk1.then hk2 fun k hk (q : k = _) => by omega)
  · simp only [e_fd, e_nck, e_pkt, e_pkf, e_gdtt, e_gdtf, e_gdft, e_gdff, e_ift, e_iff, e_not, e_ln, e_lnT, e_cp, e_cvi, e_ex20, e_ex21, e_ex30, e_ex31, e_ex32, e_add, e_sub, e_mul, e_quo, e_rem, e_and, e_or, e_xor, e_shl, e_shr, e_eql, e_neq, e_lss, e_leq, e_gtr, e_geq, e_beq, e_bne, e_peq1, e_peq2, e_pne1, e_pne2, e_zeq1, e_zeq2, e_zne1, e_zne2, e_feq1, e_fne1, e_feq2, e_fne2, e_seq, e_sne, e_ta1, e_ta2, Nat.zero_add, Nat.add_zero, Bool.not_true, Bool.not_false]
    refine ldn_r hrow hle ?_
    rw [seven hj hle]
    have hsc : scal p.2 = true := hlegs.scal
    refine nw_r fun w2 r2 hk2 hz2 => ?_
    refine stn_r (cs := rC p) r2 rfl (show 0 + 7 ≤ 7 by decide) (rC_sc hsc) fun w3 r3 hk3 hz3 => ?_
    replace r3 : Row w3 w1.heap.size 85 (rC p) := r3
    have k3 : Kp Emp w1 w3 := hk2.then hk3 fun k hk (q : k = _) => by omega
    have ep : rs[i] = p.1 := by
      rw [List.getElem?_eq_getElem hlt] at hp
      exact Option.some.inj hp
    have hll : p.1.legs.length ≤ 1000000 := by rw [← ep]; exact hb _ (List.getElem_mem hlt)
    try simp only [e_fd, e_nck, e_pkt, e_pkf, e_gdtt, e_gdtf, e_gdft, e_gdff, e_ift, e_iff, e_not, e_ln, e_lnT, e_cp, e_cvi, e_ex20, e_ex21, e_ex30, e_ex31, e_ex32, e_add, e_sub, e_mul, e_quo, e_rem, e_and, e_or, e_xor, e_shl, e_shr, e_eql, e_neq, e_lss, e_leq, e_gtr, e_geq, e_beq, e_bne, e_peq1, e_peq2, e_pne1, e_pne2, e_zeq1, e_zeq2, e_zne1, e_zne2, e_feq1, e_fne1, e_feq2, e_fne2, e_seq, e_sne, e_ta1, e_ta2, Nat.zero_add, Nat.add_zero, Bool.not_true, Bool.not_false]
    refine Sl.empty (f := lC) (k := 2) fun w4 s4 hk4 hz4 => ?_
    try simp only [e_fd, e_nck, e_pkt, e_pkf, e_gdtt, e_gdtf, e_gdft, e_gdff, e_ift, e_iff, e_not, e_ln, e_lnT, e_cp, e_cvi, e_ex20, e_ex21, e_ex30, e_ex31, e_ex32, e_add, e_sub, e_mul, e_quo, e_rem, e_and, e_or, e_xor, e_shl, e_shr, e_eql, e_neq, e_lss, e_leq, e_gtr, e_geq, e_beq, e_bne, e_peq1, e_peq2, e_pne1, e_pne2, e_zeq1, e_zeq2, e_zne1, e_zne2, e_feq1, e_fne1, e_feq2, e_fne2, e_seq, e_sne, e_ta1, e_ta2, Nat.zero_add, Nat.add_zero, Bool.not_true, Bool.not_false]
    refine ld1_r (v := p.2) (hk4.row' (k3.row' hrow)) (by rw [hj 6 (by decide)]; rfl) ?_
    have hA : Ai lC 2 M w4 p.2 p.1.legs := (hlegs.kp' k3).kp' hk4
    refine Sl.app3 lC_len rfl (fun _ _ => lC_sc _) s4 (hA.rds lC_len) (by simp; omega) (by simp; omega) fun w5 v5 ob5 s5 hk5 ho5 => ?_
    rw [List.nil_append] at s5
    have k5 : Kp Emp w3 w5 := hk4.then hk5 fun k hk q => by cases q; omega
    have sz5 := k5.size
    have hb5 : ∃ b5, ob5 = some b5 ∧ w3.heap.size ≤ b5 := by
      rcases ho5 with q | ⟨b5, q, hb5⟩
      · exact ⟨_, q, Nat.le_refl _⟩
      · exact ⟨b5, q, by omega⟩
    obtain ⟨b5, rfl, hb5⟩ := hb5
    try simp only [e_fd, e_nck, e_pkt, e_pkf, e_gdtt, e_gdtf, e_gdft, e_gdff, e_ift, e_iff, e_not, e_ln, e_lnT, e_cp, e_cvi, e_ex20, e_ex21, e_ex30, e_ex31, e_ex32, e_add, e_sub, e_mul, e_quo, e_rem, e_and, e_or, e_xor, e_shl, e_shr, e_eql, e_neq, e_lss, e_leq, e_gtr, e_geq, e_beq, e_bne, e_peq1, e_peq2, e_pne1, e_pne2, e_zeq1, e_zeq2, e_zne1, e_zne2, e_feq1, e_fne1, e_feq2, e_fne2, e_seq, e_sne, e_ta1, e_ta2, Nat.zero_add, Nat.add_zero, Bool.not_true, Bool.not_false]
    refine st1_r (k5.row' r3) (show 6 < 7 by decide) (sl_scal s5) fun w6 r6 hk6 hz6 => ?_
    replace r6 : Row w6 w1.heap.size 85 (rC (p.1, v5)) := r6
    have s6 := s5.kp hk6 (fun b e (q : b = _) => by cases e; omega)
    refine ldn_r r6 (show 0 + 7 ≤ 7 by decide) ?_
    have r16 := hk6.row (k5.row' (k3.row' r1)) (show ¬ w.heap.size = w1.heap.size by omega)
    refine stn_r (cs := rC (p.1, v5)) r16 rfl (show 0 + 7 ≤ 7 by decide) (rC_sc (sl_scal s5)) fun w7 r7 hk7 hz7 => ?_
    refine ldn_r r7 (show 0 + 7 ≤ _ by simp [rC]) ?_
    have s7 := s6.kp hk7 (fun b e (q : b = _) => by cases e; omega)
    have k7 : Kp Emp w w7 := (((hk1.trans k3).trans k5).then hk6 fun k hk (q : k = _) => by omega).then hk7 fun k hk (q : k = _) => by omega
    have := hyes i hlt hi w7 v5 b5 k7 ⟨by omega, s7.lt⟩ (by rw [ep]; exact s7)
    rw [ep] at this
    exact this
/-! ### sums over the records -/
def dwell (C : Cfg) (attr : Int) : Int := ((C.ats[attr.toNat]?).map (·.dw)).getD 0
def legIn (C : Cfg) (attr slot : Int) (l : Leg) : Bool := l.a == attr && (decide (l.s ≤ slot) && decide (slot < l.s + dwell C attr))
def sumL (p : Leg → Bool) (sz : Int) (ls : List Leg) : Int := (ls.map fun l => if p l then sz else 0).sum
def recIn (C : Cfg) (attr slot skip : Int) (r : Rec) : Int := if live r.st && !(r.id == skip) then sumL (legIn C attr slot) r.sz r.legs else 0
def inside (C : Cfg) (rs : List Rec) (attr slot skip : Int) : Int := (rs.map (recIn C attr slot skip)).sum
def legAt (attr slot : Int) (l : Leg) : Bool := l.a == attr && l.s == slot
def recAt (attr slot cls skip : Int) (r : Rec) : Int := if live r.st && !(r.id == skip) && r.cl == cls then sumL (legAt attr slot) r.sz r.legs else 0
def entered (rs : List Rec) (attr slot cls skip : Int) : Int := (rs.map (recAt attr slot cls skip)).sum
structure RB (r : Rec) : Prop where
  s0 : 0 ≤ r.sz
  s1 : r.sz ≤ 1073741824
  ll : r.legs.length ≤ 8
  lg : ∀ l ∈ r.legs, 0 ≤ l.s ∧ l.s ≤ 4398046511104
theorem sumL_b {p : Leg → Bool} {sz : Int} (h0 : 0 ≤ sz) : ∀ ls : List Leg, 0 ≤ sumL p sz ls ∧ sumL p sz ls ≤ sz * ((ls.length : Nat) : Int)
  | [] => by simp [sumL]
  | l :: ls => by
    obtain ⟨a, b⟩ := sumL_b (p := p) h0 ls
    have e : sumL p sz (l :: ls) = (if p l then sz else 0) + sumL p sz ls := by simp [sumL]
    rw [e]
    have e2 : sz * (((l :: ls).length : Nat) : Int) = sz * ((ls.length : Nat) : Int) + sz := by
      rw [List.length_cons, show ((ls.length + 1 : Nat) : Int) = ((ls.length : Nat) : Int) + 1 by omega, Int.mul_add, Int.mul_one]
    rw [e2]
    split <;> omega
theorem sumL_b8 {p : Leg → Bool} {r : Rec} (h : RB r) (i : Nat) : 0 ≤ sumL p r.sz (r.legs.take i) ∧ sumL p r.sz (r.legs.take i) ≤ 8589934592 := by
  obtain ⟨a, b⟩ := sumL_b (p := p) h.s0 (r.legs.take i)
  refine ⟨a, Int.le_trans b ?_⟩
  have h1 := h.s1
  have h0 := h.s0
  have h2 : (r.legs.take i).length ≤ 8 := by rw [List.length_take]; have := h.ll; omega
  have h3 : r.sz * (((r.legs.take i).length : Nat) : Int) ≤ 1073741824 * 8 := Int.mul_le_mul h1 (by omega) (by omega) (by omega)
  omega
theorem sum_b {g : Rec → Int} : ∀ {rs : List Rec}, (∀ r ∈ rs, 0 ≤ g r ∧ g r ≤ 8589934592) → 0 ≤ (rs.map g).sum ∧ (rs.map g).sum ≤ 8589934592 * ((rs.length : Nat) : Int)
  | [], _ => by simp
  | r :: rs, h => by
    obtain ⟨a, b⟩ := sum_b (rs := rs) fun r hr => h r (List.mem_cons_of_mem _ hr)
    obtain ⟨c, d⟩ := h r (List.mem_cons_self ..)
    simp only [List.map_cons, List.sum_cons, List.length_cons]
    omega
theorem sum_take {α : Type} {g : α → Int} {rs : List α} {i : Nat} (h : i < rs.length) : ((rs.take (i + 1)).map g).sum = ((rs.take i).map g).sum + g rs[i] := by
  rw [List.take_succ_eq_append_getElem h, List.map_append, List.sum_append]; simp
theorem recIn_b {C : Cfg} {attr slot skip : Int} {r : Rec} (h : RB r) : 0 ≤ recIn C attr slot skip r ∧ recIn C attr slot skip r ≤ 8589934592 := by
  unfold recIn
  split
  · have := sumL_b8 (p := legIn C attr slot) h r.legs.length
    rwa [List.take_length] at this
  · omega
theorem recAt_b {attr slot cls skip : Int} {r : Rec} (h : RB r) : 0 ≤ recAt attr slot cls skip r ∧ recAt attr slot cls skip r ≤ 8589934592 := by
  unfold recAt
  split
  · have := sumL_b8 (p := legAt attr slot) h r.legs.length
    rwa [List.take_length] at this
  · omega
theorem part_b {g : Rec → Int} {rs : List Rec} (hlen : rs.length ≤ 16777216) (h : ∀ r ∈ rs, 0 ≤ g r ∧ g r ≤ 8589934592) (i : Nat) : 0 ≤ ((rs.take i).map g).sum ∧ ((rs.take i).map g).sum ≤ 144115188075855872 := by
  obtain ⟨a, b⟩ := sum_b (g := g) (rs := rs.take i) fun r hr => h r (List.mem_of_mem_take hr)
  have : (rs.take i).length ≤ 16777216 := by rw [List.length_take]; omega
  omega
end
end Go.Proofs.Qxb6500896aGreat
