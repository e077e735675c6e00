import Derived.Test.Qxb6500896aGreatDoorK69
namespace Go.Proofs.Qxb6500896aGreatDoor
open Go.Sh Go.RowKit
set_option linter.unusedVariables false
set_option linter.unusedSimpArgs false

def encIss (l : List Iss) : List Int := l.flatMap fun x => uI x.id ++ uI x.slot
/-- the fields of a reply -/
def eB (p : Rp) : List Int :=
  if p.op = 1 ∨ p.op = 22 then uI p.id ++ uI p.ex
  else if p.op = 6 then uI p.id ++ uI p.pos
  else if p.op = 2 ∨ p.op = 3 ∨ p.op = 4 ∨ p.op = 5 ∨ p.op = 7 ∨ p.op = 8 then uI p.st
  else if p.op = 9 then uI p.now ++ uI (p.iss.length : Nat) ++ encIss p.iss ++ uI p.exd ++ uI p.ns ++ uI p.lp
  else if p.op = 16 then encRec (p.recs.head?.getD zRec)
  else if p.op = 17 then uI p.nx ++ uI (p.recs.length : Nat) ++ encRs p.recs
  else if p.op = 18 then uI p.oc ++ uI p.e0 ++ uI p.e1 ++ uI p.e2 ++ uI p.fr
  else if p.op = 19 then uI (p.wt.length : Nat) ++ encIds p.wt
  else if p.op = 20 then uI p.now ++ uI p.la ++ uI p.gr
  else if p.op = 21 then uI p.sl
  else if p.op = 23 then encIds (p.cnt.drop 1)
  else if p.op = 24 then uI p.at' ++ uI p.pos ++ uI p.ah
  else []
/-- the bytes of a reply -/
def eR (p : Rp) : List Int := if p.code = 0 then [0, p.op] ++ eB p else [p.code]
structure RpN (p : Rp) : Prop where
  code : 0 ≤ p.code ∧ p.code ≤ 255
  op : 0 ≤ p.op ∧ p.op ≤ 255
  id : N63 p.id
  ex : N63 p.ex
  pos : N63 p.pos
  st : N63 p.st
  now : N63 p.now
  iss : ∀ x ∈ p.iss, N63 x.id ∧ N63 x.slot
  il : p.iss.length ≤ 1000000
  exd : N63 p.exd
  ns : N63 p.ns
  lp : N63 p.lp
  recs : ∀ r ∈ p.recs, RN r
  rl : p.recs.length ≤ 1000000
  nx : N63 p.nx
  oc : N63 p.oc
  e0 : N63 p.e0
  e1 : N63 p.e1
  e2 : N63 p.e2
  fr : N63 p.fr
  wt : ∀ x ∈ p.wt, N63 x
  wl : p.wt.length ≤ 1000000
  la : N63 p.la
  gr : N63 p.gr
  sl : N63 p.sl
  cnt : ∀ x ∈ p.cnt, N63 x
  at' : N63 p.at'
  ah : N63 p.ah
  one : p.op = 16 → p.code = 0 → p.recs ≠ []
theorem encIss_len (l : List Iss) : (encIss l).length ≤ 18 * l.length := by
  induction l with
  | nil => simp [encIss]
  | cons x l ih =>
    have h1 := uI_len x.id
    have h2 := uI_len x.slot
    have e : encIss (x :: l) = (uI x.id ++ uI x.slot) ++ encIss l := by simp [encIss]
    rw [e]
    simp only [List.length_append, List.length_cons]
    omega
theorem encRs_snoc (a : List Rec) (r : Rec) : encRs (a ++ [r]) = encRs a ++ encRec r := by simp [encRs]
theorem encIss_app (a b : List Iss) : encIss (a ++ b) = encIss a ++ encIss b := by simp [encIss]
section
variable {F G S : Nat → Prop} {w w' w0 w1 : World} {v lv rv iv wv : Value} {ob ob0 : Option Nat} {ys : List Int} {K : Value → World → Prop} {l : List Value} {p : Rp} {pb : Nat}
set_option maxHeartbeats 4000000 in
theorem appRep_ok (hN : RpN p) (hr : Rv F w l p) (hF : ∀ b, F b → b < w.heap.size)
    (hK : ∀ w' v b, Sl bC 1 w' 5 (some b) v (eR p) → Nb w w' b → Kp Emp w w' → K v w') : cl Tryz.prog 67 #[nilS, .agg l.toArray] K w := by
  have hl34 := hr.len
  obtain ⟨iv, rv, wv, rfl, hi, hro, hw, hc⟩ := hr
  apply c67
  unfold s67_p48
  refine nw_r fun w1 r1 hk1 hz1 => ?_
  replace r1 : Row w1 w.heap.size 46 (p.cells iv rv wv) := r1
  have a1 : Ap w none w1 nilS [] := Ap.nil.none hk1
  have n0 : ∀ b, F b → (none : Option Nat) ≠ some b := fun b _ q => by cases q
  have kE : ∀ {w' : World} {v : Value} {ys : List Int}, Ap w none w' v ys → Kp Emp w w' := fun a => a.kp.mono fun b _ q => by cases q
  -- the end
  have fin : ∀ {w' : World} {v : Value} {ys : List Int}, Ap w none w' v ys → eR p = ys → ys ≠ [] → K v w' := fun {w' v ys} a e ne => by
    have k := kE a
    obtain ⟨ob, s, _, o⟩ := a
    rcases o with q | ⟨b, q, hb⟩
    · subst q; exact absurd s.2 ne
    · subst q
      rw [e] at hK
      exact hK w' v b s ⟨hb, s.lt⟩ k
  try simp only [e_fd, e_nck, e_pkt, e_pkf, e_gdtt, e_gdtf, e_gdft, e_gdff, e_ift, e_iff, e_not, e_ln, e_lnT, e_cp, e_cvi, e_ex20, e_ex21, e_ex30, e_ex31, e_ex32, e_add, e_sub, e_mul, e_quo, e_rem, e_and, e_or, e_xor, e_shl, e_shr, e_eql, e_neq, e_lss, e_leq, e_gtr, e_geq, e_beq, e_bne, e_peq1, e_peq2, e_pne1, e_pne2, e_zeq1, e_zeq2, e_zne1, e_zne2, e_feq1, e_fne1, e_feq2, e_fne2, e_seq, e_sne, e_ta1, e_ta2, Nat.zero_add, Nat.add_zero, Bool.not_true, Bool.not_false]
  refine ld1_r r1 rfl ?_
  try simp only [e_fd, e_nck, e_pkt, e_pkf, e_gdtt, e_gdtf, e_gdft, e_gdff, e_ift, e_iff, e_not, e_ln, e_lnT, e_cp, e_cvi, e_ex20, e_ex21, e_ex30, e_ex31, e_ex32, e_add, e_sub, e_mul, e_quo, e_rem, e_and, e_or, e_xor, e_shl, e_shr, e_eql, e_neq, e_lss, e_leq, e_gtr, e_geq, e_beq, e_bne, e_peq1, e_peq2, e_pne1, e_pne2, e_zeq1, e_zeq2, e_zne1, e_zne2, e_feq1, e_fne1, e_feq2, e_fne2, e_seq, e_sne, e_ta1, e_ta2, Nat.zero_add, Nat.add_zero, Bool.not_true, Bool.not_false]
  have ec : IntKind.u8.wrap p.code = p.code := by rw [wrapu8]; have := hN.code; omega
  rw [ec]
  refine a1.byte (by simp) fun w2 v2 a2 k2 => ?_
  rw [List.nil_append] at a2
  have r2 := k2 _ _ _ r1 (by decide)
  refine ld1_r r2 rfl ?_
  simp only [nei, e_fd, e_nck, e_pkt, e_pkf, e_gdtt, e_gdtf, e_gdft, e_gdff, e_ift, e_iff, e_not, e_ln, e_lnT, e_cp, e_cvi, e_ex20, e_ex21, e_ex30, e_ex31, e_ex32, e_add, e_sub, e_mul, e_quo, e_rem, e_and, e_or, e_xor, e_shl, e_shr, e_eql, e_neq, e_lss, e_leq, e_gtr, e_geq, e_beq, e_bne, e_peq1, e_peq2, e_pne1, e_pne2, e_zeq1, e_zeq2, e_zne1, e_zne2, e_feq1, e_fne1, e_feq2, e_fne2, e_seq, e_sne, e_ta1, e_ta2, Nat.zero_add, Nat.add_zero, Bool.not_true, Bool.not_false]
  unfold eR at fin
  by_cases hc0 : p.code = 0
  · rw [if_pos hc0] at fin
    simp only [hc0, decide_true, Bool.not_true, e_fd, e_nck, e_pkt, e_pkf, e_gdtt, e_gdtf, e_gdft, e_gdff, e_ift, e_iff, e_not, e_ln, e_lnT, e_cp, e_cvi, e_ex20, e_ex21, e_ex30, e_ex31, e_ex32, e_add, e_sub, e_mul, e_quo, e_rem, e_and, e_or, e_xor, e_shl, e_shr, e_eql, e_neq, e_lss, e_leq, e_gtr, e_geq, e_beq, e_bne, e_peq1, e_peq2, e_pne1, e_pne2, e_zeq1, e_zeq2, e_zne1, e_zne2, e_feq1, e_fne1, e_feq2, e_fne2, e_seq, e_sne, e_ta1, e_ta2, Nat.zero_add, Nat.add_zero, Bool.not_true, Bool.not_false]
    rw [hc0] at a2
    refine ld1_r r2 rfl ?_
    refine a2.byte (by simp) fun w3 v3 a3 k3 => ?_
    have r3 := k3 _ _ _ r2 (by decide)
    refine ld1_r r3 rfl ?_
    replace a3 : Ap w none w3 v3 [0, p.op] := a3
    have sw1 : ∀ {k : Int}, p.op = k → (p.op == k) = true := fun h => by rw [h]; simp
    have sw0 : ∀ {k : Int}, p.op ≠ k → (p.op == k) = false := fun h => beq_eq_false_iff_ne.2 h
    -- one number of the reply
    have num : ∀ {w4 : World} {v4 : Value} {ys : List Int} {k : Nat} {x : Int} {X : Value → World → Prop}, Ap w none w4 v4 ys → Row w4 w.heap.size 46 (p.cells iv rv wv) → (p.cells iv rv wv)[k]? = some (I x) → N63 x → ys.length ≤ 900000000 → (∀ w5 v5, Ap w none w5 v5 (ys ++ uI x) → Row w5 w.heap.size 46 (p.cells iv rv wv) → X v5 w5) → fd k (P w.heap.size 0) (fun q w => ld1 q (fun t w => cl Tryz.prog 98 #[v4, t] X w) w) w4 := by
      intro w4 v4 ys k x X a4 r4 hk hx hl hX
      refine fdp ?_
      refine ld1_r r4 hk ?_
      exact a4.num (by omega) hx fun w5 v5 a5 k5 => hX w5 v5 a5 (k5 _ _ _ r4 (by decide))
    have lu := fun x => uI_len x
    have ne2 : ∀ (zs : List Int), [0, p.op] ++ zs ≠ [] := fun zs => by simp
    unfold eB at fin
    unfold s67_p47
    have P2 : p.op = 1 ∨ p.op = 22 → s67_p2 K v3 (P w.heap.size 0) w3 := by
      intro ho
      rw [if_pos ho] at fin
      unfold s67_p2
      refine num a3 r3 rfl hN.id (by simp) fun w4 v4 a4 r4 => ?_
      have := lu p.id
      refine num a4 r4 rfl hN.ex (by simp; omega) fun w5 v5 a5 r5 => ?_
      unfold s67_p1
      exact fin a5 (by simp) (by simp)
    by_cases c1 : p.op = 1
    · refine sw_yes (sw1 c1) ?_
      unfold s67_p46
      refine sw_t ?_
      exact P2 (.inl c1)
    refine sw_no (sw0 c1) ?_
    by_cases c2 : p.op = 22
    · refine sw_yes (sw1 c2) ?_
      exact P2 (.inr c2)
    refine sw_no (sw0 c2) ?_
    rw [if_neg (by omega)] at fin
    unfold s67_p45
    by_cases c3 : p.op = 6
    · rw [if_pos c3] at fin
      refine sw_yes (sw1 c3) ?_
      unfold s67_p3
      refine num a3 r3 rfl hN.id (by simp) fun w4 v4 a4 r4 => ?_
      have := lu p.id
      refine num a4 r4 rfl hN.pos (by simp; omega) fun w5 v5 a5 r5 => ?_
      unfold s67_p1
      exact fin a5 (by simp) (by simp)
    refine sw_no (sw0 c3) ?_
    rw [if_neg c3] at fin
    unfold s67_p43
    have P4 : (p.op = 2 ∨ p.op = 3 ∨ p.op = 4 ∨ p.op = 5 ∨ p.op = 7 ∨ p.op = 8) → s67_p4 K v3 (P w.heap.size 0) w3 := by
      intro ho
      rw [if_pos ho] at fin
      unfold s67_p4
      refine num a3 r3 rfl hN.st (by simp) fun w4 v4 a4 r4 => ?_
      unfold s67_p1
      exact fin a4 (by simp) (by simp)
    by_cases d2 : p.op = 2
    · refine sw_yes (sw1 d2) ?_
      unfold s67_p42
      refine sw_t ?_
      exact P4 (.inl d2)
    refine sw_no (sw0 d2) ?_
    by_cases d3 : p.op = 3
    · refine sw_yes (sw1 d3) ?_
      unfold s67_p42
      refine sw_t ?_
      exact P4 (.inr (.inl d3))
    refine sw_no (sw0 d3) ?_
    by_cases d4 : p.op = 4
    · refine sw_yes (sw1 d4) ?_
      unfold s67_p42
      refine sw_t ?_
      exact P4 (.inr (.inr (.inl d4)))
    refine sw_no (sw0 d4) ?_
    by_cases d5 : p.op = 5
    · refine sw_yes (sw1 d5) ?_
      unfold s67_p42
      refine sw_t ?_
      exact P4 (.inr (.inr (.inr (.inl d5))))
    refine sw_no (sw0 d5) ?_
    by_cases d7 : p.op = 7
    · refine sw_yes (sw1 d7) ?_
      unfold s67_p42
      refine sw_t ?_
      exact P4 (.inr (.inr (.inr (.inr (.inl d7)))))
    refine sw_no (sw0 d7) ?_
    by_cases d8 : p.op = 8
    · refine sw_yes (sw1 d8) ?_
      exact P4 (.inr (.inr (.inr (.inr (.inr d8)))))
    refine sw_no (sw0 d8) ?_
    rw [if_neg (by omega)] at fin
    unfold s67_p41
    by_cases c9 : p.op = 9
    · rw [if_pos c9] at fin
      refine sw_yes (sw1 c9) ?_
      have hil := hN.il
      have l1 := lu p.now
      have l2 := lu (p.iss.length : Nat)
      unfold s67_p8
      refine num a3 r3 rfl hN.now (by simp) fun w4 v4 a4 r4 => ?_
      refine fdp ?_
      refine ld1_r r4 rfl ?_
      refine hi.ln ?_
      refine a4.num (by simp; omega) ⟨by omega, by omega⟩ fun w5 v5 a5 k5 => ?_
      have r5 := k5 _ _ _ r4 (by decide)
      refine fdp ?_
      refine ld1_r r5 rfl ?_
      refine hi.ln ?_
      unfold s67_p7
      refine loop_n p.iss.length (fun i l w' => ∃ v', l = [v', P w.heap.size 0, iv, I (p.iss.length : Nat), I (i : Nat)] ∧ Ap w none w' v' ([0, p.op] ++ uI p.now ++ uI (p.iss.length : Nat) ++ encIss (p.iss.take i)) ∧ Row w' w.heap.size 46 (p.cells iv rv wv)) ⟨v5, rfl, by simpa [encIss] using a5, r5⟩ ?_ ?_
      · rintro i l w6 hii ⟨v6, rfl, a6, r6⟩ B hB
        rw [s67_p7_Fe]
        unfold s67_p6
        simp only [dlt hii, e_fd, e_nck, e_pkt, e_pkf, e_gdtt, e_gdtf, e_gdft, e_gdff, e_ift, e_iff, e_not, e_ln, e_lnT, e_cp, e_cvi, e_ex20, e_ex21, e_ex30, e_ex31, e_ex32, e_add, e_sub, e_mul, e_quo, e_rem, e_and, e_or, e_xor, e_shl, e_shr, e_eql, e_neq, e_lss, e_leq, e_gtr, e_geq, e_beq, e_bne, e_peq1, e_peq2, e_pne1, e_pne2, e_zeq1, e_zeq2, e_zne1, e_zne2, e_feq1, e_fne1, e_feq2, e_fne2, e_seq, e_sne, e_ta1, e_ta2, Nat.zero_add, Nat.add_zero, Bool.not_true, Bool.not_false]
        refine each_r rfl (hi.kp' (kE a6)) hii (isC2_len _) (isC2_sc _) fun w7 r7 hk7 hz7 => ?_
        have a7 := a6.none hk7
        have hel := encIss_len (p.iss.take i)
        rw [List.length_take] at hel
        have hx := hN.iss _ (List.getElem_mem hii)
        try simp only [e_fd, e_nck, e_pkt, e_pkf, e_gdtt, e_gdtf, e_gdft, e_gdff, e_ift, e_iff, e_not, e_ln, e_lnT, e_cp, e_cvi, e_ex20, e_ex21, e_ex30, e_ex31, e_ex32, e_add, e_sub, e_mul, e_quo, e_rem, e_and, e_or, e_xor, e_shl, e_shr, e_eql, e_neq, e_lss, e_leq, e_gtr, e_geq, e_beq, e_bne, e_peq1, e_peq2, e_pne1, e_pne2, e_zeq1, e_zeq2, e_zne1, e_zne2, e_feq1, e_fne1, e_feq2, e_fne2, e_seq, e_sne, e_ta1, e_ta2, Nat.zero_add, Nat.add_zero, Bool.not_true, Bool.not_false]
        refine ld1_r r7 rfl ?_
        refine a7.num (by simp; omega) hx.1 fun w8 v8 a8 k8 => ?_
        have r8 := k8 _ _ _ r7 (by decide)
        have l3 := lu p.iss[i].id
        try simp only [e_fd, e_nck, e_pkt, e_pkf, e_gdtt, e_gdtf, e_gdft, e_gdff, e_ift, e_iff, e_not, e_ln, e_lnT, e_cp, e_cvi, e_ex20, e_ex21, e_ex30, e_ex31, e_ex32, e_add, e_sub, e_mul, e_quo, e_rem, e_and, e_or, e_xor, e_shl, e_shr, e_eql, e_neq, e_lss, e_leq, e_gtr, e_geq, e_beq, e_bne, e_peq1, e_peq2, e_pne1, e_pne2, e_zeq1, e_zeq2, e_zne1, e_zne2, e_feq1, e_fne1, e_feq2, e_fne2, e_seq, e_sne, e_ta1, e_ta2, Nat.zero_add, Nat.add_zero, Bool.not_true, Bool.not_false]
        refine ld1_r r8 rfl ?_
        refine a8.num (by simp; omega) hx.2 fun w9 v9 a9 k9 => ?_
        try simp only [e_fd, e_nck, e_pkt, e_pkf, e_gdtt, e_gdtf, e_gdft, e_gdff, e_ift, e_iff, e_not, e_ln, e_lnT, e_cp, e_cvi, e_ex20, e_ex21, e_ex30, e_ex31, e_ex32, e_add, e_sub, e_mul, e_quo, e_rem, e_and, e_or, e_xor, e_shl, e_shr, e_eql, e_neq, e_lss, e_leq, e_gtr, e_geq, e_beq, e_bne, e_peq1, e_peq2, e_pne1, e_pne2, e_zeq1, e_zeq2, e_zne1, e_zne2, e_feq1, e_fne1, e_feq2, e_fne2, e_seq, e_sne, e_ta1, e_ta2, Nat.zero_add, Nat.add_zero, Bool.not_true, Bool.not_false]
        rw [inc i (by omega)]
        refine hB _ w9 ⟨v9, rfl, ?_, k9 _ _ _ (k8 _ _ _ (hk7.row' r6) (by decide)) (by decide)⟩
        rw [List.take_succ_eq_append_getElem hii, encIss_app, show encIss [p.iss[i]] = uI p.iss[i].id ++ uI p.iss[i].slot by simp [encIss]]
        simpa only [List.append_assoc] using a9
      · rintro l w6 ⟨v6, rfl, a6, r6⟩ B
        rw [s67_p7_Fe]
        unfold s67_p6
        simp only [dnlt, e_fd, e_nck, e_pkt, e_pkf, e_gdtt, e_gdtf, e_gdft, e_gdff, e_ift, e_iff, e_not, e_ln, e_lnT, e_cp, e_cvi, e_ex20, e_ex21, e_ex30, e_ex31, e_ex32, e_add, e_sub, e_mul, e_quo, e_rem, e_and, e_or, e_xor, e_shl, e_shr, e_eql, e_neq, e_lss, e_leq, e_gtr, e_geq, e_beq, e_bne, e_peq1, e_peq2, e_pne1, e_pne2, e_zeq1, e_zeq2, e_zne1, e_zne2, e_feq1, e_fne1, e_feq2, e_fne2, e_seq, e_sne, e_ta1, e_ta2, Nat.zero_add, Nat.add_zero, Bool.not_true, Bool.not_false]
        rw [List.take_length] at a6
        have hel := encIss_len p.iss
        have l4 := lu p.exd
        have l5 := lu p.ns
        unfold s67_p5
        refine num a6 r6 rfl hN.exd (by simp; omega) fun w7 v7 a7 r7 => ?_
        refine num a7 r7 rfl hN.ns (by simp; omega) fun w8 v8 a8 r8 => ?_
        refine num a8 r8 rfl hN.lp (by simp; omega) fun w9 v9 a9 r9 => ?_
        unfold s67_p1
        exact fin a9 (by simp) (by simp)
    refine sw_no (sw0 c9) ?_
    rw [if_neg c9] at fin
    unfold s67_p39
    by_cases c16 : p.op = 16
    · rw [if_pos c16] at fin
      refine sw_yes (sw1 c16) ?_
      unfold s67_p9
      refine fdp ?_
      refine ld1_r (v := rv) r3 rfl ?_
      obtain ⟨its, f1, f2, f3⟩ := hro
      have hne := hN.one c16 hc0
      have hpos : 0 < its.length := by
        rw [← List.length_map (f := (·.1)), f1]
        exact List.length_pos_iff.2 hne
      have hhd : p.recs.head?.getD zRec = its[0].1 := by
        rw [← f1, List.head?_map, List.head?_eq_getElem?, List.getElem?_eq_getElem hpos]; rfl
      rw [hhd] at fin
      have hmem := List.getElem_mem hpos
      have hrn : RN its[0].1 := hN.recs _ (by rw [← f1]; exact List.mem_map_of_mem hmem)
      have hix := (f2.kp' (kE a3)).ix (i := 0) (q := .i64) (K := fun p w => ldn 7 p (fun t w => cl Tryz.prog 100 #[v3, t] (fun t w => s67_p1 K t w) w) w) (w' := w3) hpos fun b o _ hcc => ?_
      · exact hix
      · refine hcc.ldn (rC_len _) ?_
        refine appRec_ok (r := its[0].1) (lv := its[0].2) a3 (by simp) (f3 _ hmem) n0 hrn fun w4 v4 a4 k4 => ?_
        unfold s67_p1
        exact fin a4 (by simp) (by simp)
    refine sw_no (sw0 c16) ?_
    rw [if_neg c16] at fin
    unfold s67_p37
    by_cases c17 : p.op = 17
    · rw [if_pos c17] at fin
      refine sw_yes (sw1 c17) ?_
      have hrl := hN.rl
      have l1 := lu p.nx
      have l2 := lu (p.recs.length : Nat)
      unfold s67_p12
      refine num a3 r3 rfl hN.nx (by simp) fun w4 v4 a4 r4 => ?_
      refine fdp ?_
      refine ld1_r (v := rv) r4 rfl ?_
      refine hro.ln ?_
      refine a4.num (by simp; omega) ⟨by omega, by omega⟩ fun w5 v5 a5 k5 => ?_
      have r5 := k5 _ _ _ r4 (by decide)
      refine fdp ?_
      refine ld1_r (v := rv) r5 rfl ?_
      refine hro.ln ?_
      obtain ⟨its, f1, f2, f3⟩ := hro
      have hitl : its.length = p.recs.length := by rw [← f1, List.length_map]
      rw [← hitl]
      unfold s67_p11
      refine loop_n its.length (fun i l w' => ∃ v', l = [v', rv, I (its.length : Nat), I (i : Nat)] ∧ Ap w none w' v' ([0, p.op] ++ uI p.nx ++ uI (p.recs.length : Nat) ++ encRs (p.recs.take i))) ⟨v5, rfl, by simpa [encRs] using a5⟩ ?_ ?_
      · rintro i l w6 hii ⟨v6, rfl, a6⟩ B hB
        have hi2 : i < p.recs.length := by omega
        have ei : its[i].1 = p.recs[i] := by
          have : (its.map (·.1))[i]? = p.recs[i]? := by rw [f1]
          rw [List.getElem?_map, List.getElem?_eq_getElem hii, List.getElem?_eq_getElem hi2] at this
          exact Option.some.inj this
        have hlg := f3 _ (List.getElem_mem hii)
        rw [s67_p11_Fe]
        unfold s67_p10
        simp only [dlt hii, e_fd, e_nck, e_pkt, e_pkf, e_gdtt, e_gdtf, e_gdft, e_gdff, e_ift, e_iff, e_not, e_ln, e_lnT, e_cp, e_cvi, e_ex20, e_ex21, e_ex30, e_ex31, e_ex32, e_add, e_sub, e_mul, e_quo, e_rem, e_and, e_or, e_xor, e_shl, e_shr, e_eql, e_neq, e_lss, e_leq, e_gtr, e_geq, e_beq, e_bne, e_peq1, e_peq2, e_pne1, e_pne2, e_zeq1, e_zeq2, e_zne1, e_zne2, e_feq1, e_fne1, e_feq2, e_fne2, e_seq, e_sne, e_ta1, e_ta2, Nat.zero_add, Nat.add_zero, Bool.not_true, Bool.not_false]
        refine each_r rfl (f2.kp' (kE a6)) hii (rC_len _) (rC_sc hlg.scal) fun w7 r7 hk7 hz7 => ?_
        have a7 := a6.none hk7
        have hel := encRs_len (rs := p.recs.take i) (fun r hr => (hN.recs r (List.mem_of_mem_take hr)).ll)
        rw [List.length_take] at hel
        generalize its[i] = pp at ei hlg r7
        obtain ⟨rr, lvv⟩ := pp
        simp only at ei hlg
        subst ei
        refine ldn_r r7 (show 0 + 7 ≤ 7 by decide) ?_
        refine appRec_ok (r := p.recs[i]) (lv := lvv) a7 (by simp; omega) hlg n0 (hN.recs _ (List.getElem_mem hi2)) fun w8 v8 a8 k8 => ?_
        try simp only [e_fd, e_nck, e_pkt, e_pkf, e_gdtt, e_gdtf, e_gdft, e_gdff, e_ift, e_iff, e_not, e_ln, e_lnT, e_cp, e_cvi, e_ex20, e_ex21, e_ex30, e_ex31, e_ex32, e_add, e_sub, e_mul, e_quo, e_rem, e_and, e_or, e_xor, e_shl, e_shr, e_eql, e_neq, e_lss, e_leq, e_gtr, e_geq, e_beq, e_bne, e_peq1, e_peq2, e_pne1, e_pne2, e_zeq1, e_zeq2, e_zne1, e_zne2, e_feq1, e_fne1, e_feq2, e_fne2, e_seq, e_sne, e_ta1, e_ta2, Nat.zero_add, Nat.add_zero, Bool.not_true, Bool.not_false]
        rw [inc i (by omega)]
        refine hB _ w8 ⟨v8, rfl, ?_⟩
        rw [List.take_succ_eq_append_getElem hi2, encRs_snoc]
        simpa only [List.append_assoc] using a8
      · rintro l w6 ⟨v6, rfl, a6⟩ B
        rw [s67_p11_Fe]
        unfold s67_p10
        simp only [dnlt, e_fd, e_nck, e_pkt, e_pkf, e_gdtt, e_gdtf, e_gdft, e_gdff, e_ift, e_iff, e_not, e_ln, e_lnT, e_cp, e_cvi, e_ex20, e_ex21, e_ex30, e_ex31, e_ex32, e_add, e_sub, e_mul, e_quo, e_rem, e_and, e_or, e_xor, e_shl, e_shr, e_eql, e_neq, e_lss, e_leq, e_gtr, e_geq, e_beq, e_bne, e_peq1, e_peq2, e_pne1, e_pne2, e_zeq1, e_zeq2, e_zne1, e_zne2, e_feq1, e_fne1, e_feq2, e_fne2, e_seq, e_sne, e_ta1, e_ta2, Nat.zero_add, Nat.add_zero, Bool.not_true, Bool.not_false]
        rw [hitl, List.take_length] at a6
        unfold s67_p1
        exact fin a6 (by simp) (by simp)
    refine sw_no (sw0 c17) ?_
    rw [if_neg c17] at fin
    unfold s67_p35
    by_cases c18 : p.op = 18
    · rw [if_pos c18] at fin
      refine sw_yes (sw1 c18) ?_
      have l1 := lu p.oc
      have l2 := lu p.e0
      have l3 := lu p.e1
      have l4 := lu p.e2
      unfold s67_p16
      refine num a3 r3 rfl hN.oc (by simp) fun w4 v4 a4 r4 => ?_
      refine fdp ?_
      refine ldn_r r4 (by omega) ?_
      show s67_p15 K v4 (P w.heap.size 0) (.agg #[I p.e0, I p.e1, I p.e2]) (I 0) w4
      have hqa : (#[I p.e0, I p.e1, I p.e2] : Array Value) = ([p.e0, p.e1, p.e2].map I).toArray := rfl
      rw [hqa]
      generalize hqs : [p.e0, p.e1, p.e2] = qs
      have hql : qs.length = 3 := by rw [← hqs]; rfl
      have hqn : ∀ x ∈ qs, N63 x := by
        rw [← hqs]
        intro x hx
        simp only [List.mem_cons, List.not_mem_nil, or_false] at hx
        rcases hx with rfl | rfl | rfl
        · exact hN.e0
        · exact hN.e1
        · exact hN.e2
      unfold s67_p15
      refine loop_n 3 (fun i l w' => ∃ v', l = [v', P w.heap.size 0, .agg (qs.map I).toArray, I (i : Nat)] ∧ Ap w none w' v' ([0, p.op] ++ uI p.oc ++ encIds (qs.take i)) ∧ Row w' w.heap.size 46 (p.cells iv rv wv)) ⟨v4, rfl, by simpa [encIds] using a4, r4⟩ ?_ ?_
      · rintro k l w6 hk ⟨v6, rfl, a6, r6⟩ B hB
        rw [s67_p15_Fe]
        unfold s67_p14
        have e1 : ((k : Nat) : Int) < 3 := by omega
        simp only [e1, decide_true, e_fd, e_nck, e_pkt, e_pkf, e_gdtt, e_gdtf, e_gdft, e_gdff, e_ift, e_iff, e_not, e_ln, e_lnT, e_cp, e_cvi, e_ex20, e_ex21, e_ex30, e_ex31, e_ex32, e_add, e_sub, e_mul, e_quo, e_rem, e_and, e_or, e_xor, e_shl, e_shr, e_eql, e_neq, e_lss, e_leq, e_gtr, e_geq, e_beq, e_bne, e_peq1, e_peq2, e_pne1, e_pne2, e_zeq1, e_zeq2, e_zne1, e_zne2, e_feq1, e_fne1, e_feq2, e_fne2, e_seq, e_sne, e_ta1, e_ta2, Nat.zero_add, Nat.add_zero, Bool.not_true, Bool.not_false]
        have hkq : k < qs.length := by omega
        have hel := encIds_len (qs.take k)
        rw [List.length_take] at hel
        refine iv_r (v := I qs[k]) ivq (by omega) (by omega) (by
          have e : ((k : Nat) : Int).toNat = k := by omega
          rw [e, List.getElem?_toArray, List.getElem?_map, List.getElem?_eq_getElem hkq]; rfl) ?_
        refine a6.num (by simp; omega) (hqn _ (List.getElem_mem hkq)) fun w7 v7 a7 k7 => ?_
        try simp only [e_fd, e_nck, e_pkt, e_pkf, e_gdtt, e_gdtf, e_gdft, e_gdff, e_ift, e_iff, e_not, e_ln, e_lnT, e_cp, e_cvi, e_ex20, e_ex21, e_ex30, e_ex31, e_ex32, e_add, e_sub, e_mul, e_quo, e_rem, e_and, e_or, e_xor, e_shl, e_shr, e_eql, e_neq, e_lss, e_leq, e_gtr, e_geq, e_beq, e_bne, e_peq1, e_peq2, e_pne1, e_pne2, e_zeq1, e_zeq2, e_zne1, e_zne2, e_feq1, e_fne1, e_feq2, e_fne2, e_seq, e_sne, e_ta1, e_ta2, Nat.zero_add, Nat.add_zero, Bool.not_true, Bool.not_false]
        rw [inc k (by omega)]
        refine hB _ w7 ⟨v7, rfl, ?_, k7 _ _ _ r6 (by decide)⟩
        rw [List.take_succ_eq_append_getElem hkq, encIds_app, show encIds [qs[k]] = uI qs[k] by simp [encIds]]
        simpa only [List.append_assoc] using a7
      · rintro l w6 ⟨v6, rfl, a6, r6⟩ B
        rw [s67_p15_Fe]
        unfold s67_p14
        have e1 : ¬ ((3 : Nat) : Int) < 3 := by decide
        simp only [e1, decide_false, e_fd, e_nck, e_pkt, e_pkf, e_gdtt, e_gdtf, e_gdft, e_gdff, e_ift, e_iff, e_not, e_ln, e_lnT, e_cp, e_cvi, e_ex20, e_ex21, e_ex30, e_ex31, e_ex32, e_add, e_sub, e_mul, e_quo, e_rem, e_and, e_or, e_xor, e_shl, e_shr, e_eql, e_neq, e_lss, e_leq, e_gtr, e_geq, e_beq, e_bne, e_peq1, e_peq2, e_pne1, e_pne2, e_zeq1, e_zeq2, e_zne1, e_zne2, e_feq1, e_fne1, e_feq2, e_fne2, e_seq, e_sne, e_ta1, e_ta2, Nat.zero_add, Nat.add_zero, Bool.not_true, Bool.not_false]
        rw [List.take_of_length_le (by omega), ← hqs] at a6
        have e5 : encIds [p.e0, p.e1, p.e2] = uI p.e0 ++ uI p.e1 ++ uI p.e2 := by simp [encIds]
        rw [e5] at a6
        unfold s67_p13
        refine num a6 r6 rfl hN.fr (by simp; omega) fun w7 v7 a7 r7 => ?_
        unfold s67_p1
        exact fin a7 (by simp) (by simp)
    refine sw_no (sw0 c18) ?_
    rw [if_neg c18] at fin
    unfold s67_p33
    by_cases c19 : p.op = 19
    · rw [if_pos c19] at fin
      refine sw_yes (sw1 c19) ?_
      have hwl := hN.wl
      have l1 := lu (p.wt.length : Nat)
      unfold s67_p19
      refine fdp ?_
      refine ld1_r (v := wv) r3 rfl ?_
      refine hw.ln ?_
      refine a3.num (by simp) ⟨by omega, by omega⟩ fun w5 v5 a5 k5 => ?_
      have r5 := k5 _ _ _ r3 (by decide)
      refine fdp ?_
      refine ld1_r (v := wv) r5 rfl ?_
      refine hw.ln ?_
      unfold s67_p18
      refine loop_n p.wt.length (fun i l w' => ∃ v', l = [v', wv, I (p.wt.length : Nat), I (i : Nat)] ∧ Ap w none w' v' ([0, p.op] ++ uI (p.wt.length : Nat) ++ encIds (p.wt.take i))) ⟨v5, rfl, by simpa [encIds] using a5⟩ ?_ ?_
      · rintro i l w6 hii ⟨v6, rfl, a6⟩ B hB
        rw [s67_p18_Fe]
        unfold s67_p17
        simp only [dlt hii, e_fd, e_nck, e_pkt, e_pkf, e_gdtt, e_gdtf, e_gdft, e_gdff, e_ift, e_iff, e_not, e_ln, e_lnT, e_cp, e_cvi, e_ex20, e_ex21, e_ex30, e_ex31, e_ex32, e_add, e_sub, e_mul, e_quo, e_rem, e_and, e_or, e_xor, e_shl, e_shr, e_eql, e_neq, e_lss, e_leq, e_gtr, e_geq, e_beq, e_bne, e_peq1, e_peq2, e_pne1, e_pne2, e_zeq1, e_zeq2, e_zne1, e_zne2, e_feq1, e_fne1, e_feq2, e_fne2, e_seq, e_sne, e_ta1, e_ta2, Nat.zero_add, Nat.add_zero, Bool.not_true, Bool.not_false]
        have hel := encIds_len (p.wt.take i)
        rw [List.length_take] at hel
        refine (hw.kp' (kE a6)).ix hii fun b o _ hcc => ?_
        refine hcc.ld0 rfl ?_
        refine a6.num (by simp; omega) (hN.wt _ (List.getElem_mem hii)) fun w7 v7 a7 k7 => ?_
        try simp only [e_fd, e_nck, e_pkt, e_pkf, e_gdtt, e_gdtf, e_gdft, e_gdff, e_ift, e_iff, e_not, e_ln, e_lnT, e_cp, e_cvi, e_ex20, e_ex21, e_ex30, e_ex31, e_ex32, e_add, e_sub, e_mul, e_quo, e_rem, e_and, e_or, e_xor, e_shl, e_shr, e_eql, e_neq, e_lss, e_leq, e_gtr, e_geq, e_beq, e_bne, e_peq1, e_peq2, e_pne1, e_pne2, e_zeq1, e_zeq2, e_zne1, e_zne2, e_feq1, e_fne1, e_feq2, e_fne2, e_seq, e_sne, e_ta1, e_ta2, Nat.zero_add, Nat.add_zero, Bool.not_true, Bool.not_false]
        rw [inc i (by omega)]
        refine hB _ w7 ⟨v7, rfl, ?_⟩
        rw [List.take_succ_eq_append_getElem hii, encIds_app, show encIds [p.wt[i]] = uI p.wt[i] by simp [encIds]]
        simpa only [List.append_assoc] using a7
      · rintro l w6 ⟨v6, rfl, a6⟩ B
        rw [s67_p18_Fe]
        unfold s67_p17
        simp only [dnlt, e_fd, e_nck, e_pkt, e_pkf, e_gdtt, e_gdtf, e_gdft, e_gdff, e_ift, e_iff, e_not, e_ln, e_lnT, e_cp, e_cvi, e_ex20, e_ex21, e_ex30, e_ex31, e_ex32, e_add, e_sub, e_mul, e_quo, e_rem, e_and, e_or, e_xor, e_shl, e_shr, e_eql, e_neq, e_lss, e_leq, e_gtr, e_geq, e_beq, e_bne, e_peq1, e_peq2, e_pne1, e_pne2, e_zeq1, e_zeq2, e_zne1, e_zne2, e_feq1, e_fne1, e_feq2, e_fne2, e_seq, e_sne, e_ta1, e_ta2, Nat.zero_add, Nat.add_zero, Bool.not_true, Bool.not_false]
        rw [List.take_length] at a6
        unfold s67_p1
        exact fin a6 (by simp) (by simp)
    refine sw_no (sw0 c19) ?_
    rw [if_neg c19] at fin
    unfold s67_p31
    by_cases c20 : p.op = 20
    · rw [if_pos c20] at fin
      refine sw_yes (sw1 c20) ?_
      have l1 := lu p.now
      have l2 := lu p.la
      unfold s67_p20
      refine num a3 r3 rfl hN.now (by simp) fun w4 v4 a4 r4 => ?_
      refine num a4 r4 rfl hN.la (by simp; omega) fun w5 v5 a5 r5 => ?_
      refine num a5 r5 rfl hN.gr (by simp; omega) fun w6 v6 a6 r6 => ?_
      unfold s67_p1
      exact fin a6 (by simp) (by simp)
    refine sw_no (sw0 c20) ?_
    rw [if_neg c20] at fin
    unfold s67_p29
    by_cases c21 : p.op = 21
    · rw [if_pos c21] at fin
      refine sw_yes (sw1 c21) ?_
      unfold s67_p21
      refine num a3 r3 rfl hN.sl (by simp) fun w4 v4 a4 r4 => ?_
      unfold s67_p1
      exact fin a4 (by simp) (by simp)
    refine sw_no (sw0 c21) ?_
    rw [if_neg c21] at fin
    unfold s67_p27
    by_cases c23 : p.op = 23
    · rw [if_pos c23] at fin
      refine sw_yes (sw1 c23) ?_
      have hcl : (p.cnt.drop 1).length = 9 := by rw [List.length_drop]; omega
      unfold s67_p24
      refine fdp ?_
      show (0 ≤ (1 : Int) ∧ (1 : Int) ≤ ((10 : Nat) : Int) ∧ ((10 : Nat) : Int) ≤ ((10 : Nat) : Int)) ∧ _
      refine ⟨⟨by decide, by decide, by decide⟩, ?_⟩
      rw [if_neg (by decide), add_mk]
      show lnS (.slice (some ⟨w.heap.size, 22 + 1, none⟩) 9 9) _ _
      show s67_p23 K v3 (.slice (some ⟨w.heap.size, 23, none⟩) 9 9) (I 9) (I 0) w3
      unfold s67_p23
      refine loop_n 9 (fun i l w' => ∃ v', l = [v', .slice (some ⟨w.heap.size, 23, none⟩) 9 9, I 9, I (i : Nat)] ∧ Ap w none w' v' ([0, p.op] ++ encIds ((p.cnt.drop 1).take i)) ∧ Row w' w.heap.size 46 (p.cells iv rv wv)) ⟨v3, rfl, by simpa [encIds] using a3, r3⟩ ?_ ?_
      · rintro i l w6 hii ⟨v6, rfl, a6, r6⟩ B hB
        rw [s67_p23_Fe]
        unfold s67_p22
        have e1 : ((i : Nat) : Int) < 9 := by omega
        simp only [e1, decide_true, e_fd, e_nck, e_pkt, e_pkf, e_gdtt, e_gdtf, e_gdft, e_gdff, e_ift, e_iff, e_not, e_ln, e_lnT, e_cp, e_cvi, e_ex20, e_ex21, e_ex30, e_ex31, e_ex32, e_add, e_sub, e_mul, e_quo, e_rem, e_and, e_or, e_xor, e_shl, e_shr, e_eql, e_neq, e_lss, e_leq, e_gtr, e_geq, e_beq, e_bne, e_peq1, e_peq2, e_pne1, e_pne2, e_zeq1, e_zeq2, e_zne1, e_zne2, e_feq1, e_fne1, e_feq2, e_fne2, e_seq, e_sne, e_ta1, e_ta2, Nat.zero_add, Nat.add_zero, Bool.not_true, Bool.not_false]
        have hel := encIds_len ((p.cnt.drop 1).take i)
        rw [List.length_take] at hel
        refine ⟨⟨by omega, by omega⟩, ?_⟩
        have e0 : ((i : Nat) : Int).toNat * 1 = i := by omega
        rw [e0, add_mk]
        have hid : i < (p.cnt.drop 1).length := by omega
        have hg : (p.cells iv rv wv)[23 + i]? = some (I (p.cnt.drop 1)[i]) := by
          have := cnt_get (iv := iv) (rv := rv) (wv := wv) (p := p) (k := i + 1) hc (by omega)
          rw [show 23 + i = 22 + (i + 1) by omega, this, List.getElem_drop, List.getElem?_eq_getElem (by omega)]
          simp [Nat.add_comm]
        refine ld1_r r6 hg ?_
        refine a6.num (by rw [List.length_append]; simp only [List.length_cons, List.length_nil]; omega) (hN.cnt _ (List.mem_of_mem_drop (List.getElem_mem hid))) fun w7 v7 a7 k7 => ?_
        try simp only [e_fd, e_nck, e_pkt, e_pkf, e_gdtt, e_gdtf, e_gdft, e_gdff, e_ift, e_iff, e_not, e_ln, e_lnT, e_cp, e_cvi, e_ex20, e_ex21, e_ex30, e_ex31, e_ex32, e_add, e_sub, e_mul, e_quo, e_rem, e_and, e_or, e_xor, e_shl, e_shr, e_eql, e_neq, e_lss, e_leq, e_gtr, e_geq, e_beq, e_bne, e_peq1, e_peq2, e_pne1, e_pne2, e_zeq1, e_zeq2, e_zne1, e_zne2, e_feq1, e_fne1, e_feq2, e_fne2, e_seq, e_sne, e_ta1, e_ta2, Nat.zero_add, Nat.add_zero, Bool.not_true, Bool.not_false]
        rw [inc i (by omega)]
        refine hB _ w7 ⟨v7, rfl, ?_, k7 _ _ _ r6 (by decide)⟩
        rw [List.take_succ_eq_append_getElem hid, encIds_app, show encIds [(p.cnt.drop 1)[i]] = uI (p.cnt.drop 1)[i] by simp [encIds]]
        simpa only [List.append_assoc] using a7
      · rintro l w6 ⟨v6, rfl, a6, r6⟩ B
        rw [s67_p23_Fe]
        unfold s67_p22
        have e1 : ¬ ((9 : Nat) : Int) < 9 := by decide
        simp only [e1, decide_false, e_fd, e_nck, e_pkt, e_pkf, e_gdtt, e_gdtf, e_gdft, e_gdff, e_ift, e_iff, e_not, e_ln, e_lnT, e_cp, e_cvi, e_ex20, e_ex21, e_ex30, e_ex31, e_ex32, e_add, e_sub, e_mul, e_quo, e_rem, e_and, e_or, e_xor, e_shl, e_shr, e_eql, e_neq, e_lss, e_leq, e_gtr, e_geq, e_beq, e_bne, e_peq1, e_peq2, e_pne1, e_pne2, e_zeq1, e_zeq2, e_zne1, e_zne2, e_feq1, e_fne1, e_feq2, e_fne2, e_seq, e_sne, e_ta1, e_ta2, Nat.zero_add, Nat.add_zero, Bool.not_true, Bool.not_false]
        rw [List.take_of_length_le (by omega)] at a6
        unfold s67_p1
        exact fin a6 (by simp) (by simp)
    refine sw_no (sw0 c23) ?_
    rw [if_neg c23] at fin
    unfold s67_p25
    by_cases c24 : p.op = 24
    · rw [if_pos c24] at fin
      refine sw_yes (sw1 c24) ?_
      have l1 := lu p.at'
      have l2 := lu p.pos
      have g32 : (p.cells iv rv wv)[32]? = some (I p.at') := by
        unfold Rp.cells
        rw [List.getElem?_append_right (by simp), show 32 - _ = 10 from by simp, List.getElem?_append_right (by simp; omega), show 10 - (List.map I p.cnt).length = 0 by rw [List.length_map]; omega]
        rfl
      have g33 : (p.cells iv rv wv)[33]? = some (I p.ah) := by
        unfold Rp.cells
        rw [List.getElem?_append_right (by simp), show 33 - _ = 11 from by simp, List.getElem?_append_right (by simp; omega), show 11 - (List.map I p.cnt).length = 1 by rw [List.length_map]; omega]
        rfl
      refine num a3 r3 g32 hN.at' (by simp) fun w4 v4 a4 r4 => ?_
      refine num a4 r4 rfl hN.pos (by simp; omega) fun w5 v5 a5 r5 => ?_
      refine num a5 r5 g33 hN.ah (by simp; omega) fun w6 v6 a6 r6 => ?_
      unfold s67_p1
      exact fin a6 (by simp) (by simp)
    refine sw_no (sw0 c24) ?_
    rw [if_neg c24] at fin
    unfold s67_p1
    exact fin a3 (by simp) (by simp)
  · rw [if_neg hc0] at fin
    simp only [hc0, decide_false, Bool.not_false, e_fd, e_nck, e_pkt, e_pkf, e_gdtt, e_gdtf, e_gdft, e_gdff, e_ift, e_iff, e_not, e_ln, e_lnT, e_cp, e_cvi, e_ex20, e_ex21, e_ex30, e_ex31, e_ex32, e_add, e_sub, e_mul, e_quo, e_rem, e_and, e_or, e_xor, e_shl, e_shr, e_eql, e_neq, e_lss, e_leq, e_gtr, e_geq, e_beq, e_bne, e_peq1, e_peq2, e_pne1, e_pne2, e_zeq1, e_zeq2, e_zne1, e_zne2, e_feq1, e_fne1, e_feq2, e_fne2, e_seq, e_sne, e_ta1, e_ta2, Nat.zero_add, Nat.add_zero, Bool.not_true, Bool.not_false]
    exact fin a2 rfl (by simp)
theorem encRep_ok (hN : RpN p) (hr : Rv F w l p) (hF : ∀ b, F b → b < w.heap.size)
    (hK : ∀ w' v b, Sl bC 1 w' 5 (some b) v (eR p) → Nb w w' b → Kp Emp w w' → K v w') : cl Tryz.prog 31 #[.agg l.toArray] K w := by
  have hl := hr.len
  apply c31
  unfold s31_p1
  refine nw_r fun w1 r1 hk1 hz1 => ?_
  replace r1 : Row w1 w.heap.size 46 l := r1
  refine ldn_r r1 (by omega) ?_
  rw [List.drop_zero, List.take_of_length_le (by omega)]
  refine appRep_ok hN (hr.kp hk1 fun _ _ q => q) (fun b q => by have := hF b q; omega) fun w2 v2 b2 s2 hb2 hk2 => ?_
  exact hK w2 v2 b2 s2 ⟨by have := hb2.1; omega, hb2.2⟩ (hk1.trans hk2)
end
end Go.Proofs.Qxb6500896aGreatDoor
