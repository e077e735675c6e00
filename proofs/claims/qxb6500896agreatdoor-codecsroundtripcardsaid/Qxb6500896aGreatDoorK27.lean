import Derived.Test.Qxb6500896aGreatDoorK26
namespace Go.Proofs.Qxb6500896aGreatDoor
open Go.Sh Go.RowKit
set_option linter.unusedVariables false
set_option linter.unusedSimpArgs false

/-- the bytes of a request behind its first -/
def encB (q : Rq) : List Int :=
  if q.op = 1 ∨ q.op = 22 then uI q.cl ++ uI q.sz ++ encLegs q.legs
  else if q.op = 5 then uI q.id ++ encLegs q.legs
  else if q.op = 6 then uI q.at' ++ uI q.cl ++ uI q.sz
  else if q.op ∈ dIds then uI q.id
  else if q.op = 17 then uI q.id ++ uI q.li
  else if q.op = 18 then uI q.at' ++ uI q.sl
  else if q.op = 19 then uI q.at'
  else if q.op = 21 then uI q.at' ++ uI q.cl ++ uI q.sz ++ uI q.sl
  else []
def enc (q : Rq) : List Int := q.op :: encB q
/-- no number of it beyond an int -/
structure RqN (q : Rq) : Prop where
  op : 0 ≤ q.op ∧ q.op ≤ 255
  id : q.id ≤ 9223372036854775807
  at' : q.at' ≤ 9223372036854775807
  sl : q.sl ≤ 9223372036854775807
  cl : q.cl ≤ 9223372036854775807
  sz : q.sz ≤ 9223372036854775807
  li : q.li ≤ 9223372036854775807
  lg : ∀ l ∈ q.legs, l.a ≤ 9223372036854775807 ∧ l.s ≤ 9223372036854775807
structure XprN (q : Rq) : Prop where
  id : N63 q.id
  at' : N63 q.at'
  sl : N63 q.sl
  cl : N63 q.cl
  sz : N63 q.sz
  li : N63 q.li
  lg : LegsN q.legs
  ll : q.legs.length ≤ 8
  op : (16 ≤ q.op ∧ q.op ≤ 24) ∨ (1 ≤ q.op ∧ q.op ≤ 9)
theorem xprN {q : Rq} (hn : RqN q) (h : xpr q = true) : XprN q := by
  unfold xpr isQ isC at h
  simp only [Bool.and_eq_true, Bool.or_eq_true, decide_eq_true_eq, List.all_eq_true] at h
  obtain ⟨⟨⟨⟨⟨⟨⟨⟨h1, h2⟩, h3⟩, h4⟩, h5⟩, h6⟩, h7⟩, h8⟩, h9⟩ := h
  exact ⟨⟨h1, hn.id⟩, ⟨h2, hn.at'⟩, ⟨h3, hn.sl⟩, ⟨h4, hn.cl⟩, ⟨h5, hn.sz⟩, ⟨h6, hn.li⟩, fun l hl => ⟨⟨(h8 l hl).1, (hn.lg l hl).1⟩, (h8 l hl).2, (hn.lg l hl).2⟩, h7, h9⟩
section
variable {F G S : Nat → Prop} {w w' w0 w1 : World} {v lv : Value} {ob : Option Nat} {ys : List Int} {K : Value → World → Prop} {q : Rq} {l : List Value} {b : Nat} {T : TypeId}
/-- a field is written -/
theorem ap_fld {ob0 : Option Nat} {k : Nat} {x : Int} (h : Ap w0 ob0 w v ys) (r : Row w b T l) (hT : T ≠ 5) (hx : l[k]? = some (I x)) (hl : ys.length ≤ 1000000000) (hn : N63 x)
    (hK : ∀ w' v', Ap w0 ob0 w' v' (ys ++ uI x) → Row w' b T l → K v' w') : fd k (P b 0) (fun p w => ld1 p (fun t w => cl Tryz.prog 98 #[v, t] K w) w) w := by
  show ld1 ((⟨b, 0, none⟩ : Addr).add k |> some |> Value.pointer) _ _
  rw [add_mk, Nat.zero_add]
  refine ld1_r r hx ?_
  exact h.num hl hn fun w' v' a k => hK w' v' a (k _ _ _ r hT)
theorem ap_lgs {ob0 : Option Nat} {k : Nat} (h : Ap w0 ob0 w v ys) (r : Row w b T l) (hT : T ≠ 5) (hx : l[k]? = some lv) (hl : ys.length ≤ 900000000) {ls : List Leg} (ha : Ar lC 2 F w0 lv ls) (hF : ∀ b, F b → ob0 ≠ some b) (hn : LegsN ls) (hll : ls.length ≤ 1000000)
    (hK : ∀ w' v', Ap w0 ob0 w' v' (ys ++ encLegs ls) → Row w' b T l → K v' w') : fd k (P b 0) (fun p w => ld1 p (fun t w => cl Tryz.prog 99 #[v, t] K w) w) w := by
  show ld1 ((⟨b, 0, none⟩ : Addr).add k |> some |> Value.pointer) _ _
  rw [add_mk, Nat.zero_add]
  refine ld1_r r hx ?_
  exact appLegs_ok h hl ha hF hn hll fun w' v' a k => hK w' v' a (k _ _ _ r hT)
set_option maxHeartbeats 4000000 in
theorem appReq_ok (h : Sl bC 1 w 5 ob v ys) (hl : ys.length ≤ 1000000) (hq : Qv F w l q) (hn : RqN q) (hF : ∀ b, F b → ob ≠ some b)
    (hK : (xpr q = false → ∀ w', Kp Emp w w' → K (.tuple #[v, .bool false]) w') ∧ (xpr q = true → ∀ w' v' ob', Sl bC 1 w' 5 ob' v' (ys ++ enc q) → Kp (fun b => ob = some b) w w' → (ob' = ob ∨ ∃ b, ob' = some b ∧ w.heap.size ≤ b) → K (.tuple #[v', .bool true]) w')) :
    cl Tryz.prog 66 #[v, .agg l.toArray] K w := by
  have hq0 := hq
  obtain ⟨lv, rfl, ha⟩ := hq
  apply c66
  unfold s66_p2
  refine nw_r fun w1 r1 hk1 hz1 => ?_
  replace r1 : Row w1 w.heap.size 49 (q.cells lv) := r1
  refine ldn_r r1 (show 0 + 8 ≤ 8 by decide) ?_
  refine xpr_ok (show Qv F w1 (q.cells lv) q from ⟨lv, rfl, ha.kp' hk1⟩) fun w2 hk2 => ?_
  cases hx : xpr q with
  | false =>
    simp only [Bool.not_false, e_fd, e_nck, e_pkt, e_pkf, e_gdtt, e_gdtf, e_gdft, e_gdff, e_ift, e_iff, e_not, e_ln, e_lnT, e_cp, e_cvi, e_ex20, e_ex21, e_ex30, e_ex31, e_ex32, e_add, e_sub, e_mul, e_quo, e_rem, e_and, e_or, e_xor, e_shl, e_shr, e_eql, e_neq, e_lss, e_leq, e_gtr, e_geq, e_beq, e_bne, e_peq1, e_peq2, e_pne1, e_pne2, e_zeq1, e_zeq2, e_zne1, e_zne2, e_feq1, e_fne1, e_feq2, e_fne2, e_seq, e_sne, e_ta1, e_ta2, Nat.zero_add, Nat.add_zero, Bool.not_true, Bool.not_false]
    exact hK.1 hx w2 (hk1.trans hk2)
  | true =>
    have hK := hK.2 hx
    have xn := xprN hn hx
    have k2 := hk1.trans hk2
    rw [show ∀ (X : Value → World → Prop), un .not (.bool true) X w2 = X (.bool false) w2 from fun X => rfl]
    refine sw_f ?_
    have r2 := hk2.row' r1
    generalize ht : w.heap.size = t3 at r1 r2 ⊢
    rw [show ∀ (X : Value → World → Prop), fd 0 (P t3 0) X w2 = X (P t3 0) w2 from fun X => rfl]
    refine ld1_r r2 rfl ?_
    refine (Ap.new (h.kp' k2)).byte (by omega) fun w3 v3 a3 k3 => ?_
    have r3 := k3 _ _ _ r2 (by decide)
    rw [show ∀ (X : Value → World → Prop), fd 0 (P t3 0) X w3 = X (P t3 0) w3 from fun X => rfl]
    refine ld1_r r3 rfl ?_
    have ha2 := ha.kp' k2
    have fin : ∀ w' v', Ap w2 ob w' v' (ys ++ enc q) → s66_p1 K v' w' := fun w' v' a => by
      obtain ⟨ob', s, kk, o⟩ := a
      unfold s66_p1
      refine hK w' v' ob' s (k2.none.trans kk) ?_
      rcases o with o | ⟨b, o, hb⟩
      · exact .inl o
      · exact .inr ⟨b, o, by have := k2.size; omega⟩
    have hop := xn.op
    have l1 := uI_len q.id
    have l2 := uI_len q.at'
    have l3 := uI_len q.sl
    have l4 := uI_len q.cl
    have l5 := uI_len q.sz
    have l6 := uI_len q.li
    have hll := xn.ll
    obtain ⟨op, id, at', sl, cl, sz, li, legs⟩ := q
    have hcases : op = 1 ∨ op = 22 ∨ op = 5 ∨ op = 6 ∨ op = 2 ∨ op = 3 ∨ op = 4 ∨ op = 7 ∨ op = 8 ∨ op = 16 ∨ op = 24 ∨ op = 17 ∨ op = 18 ∨ op = 19 ∨ op = 21 ∨ op = 9 ∨ op = 20 ∨ op = 23 := by simp only at hop; omega
    rcases hcases with rfl | rfl | rfl | rfl | rfl | rfl | rfl | rfl | rfl | rfl | rfl | rfl | rfl | rfl | rfl | rfl | rfl | rfl
    · -- 1
      repeat (first | refine sw_t ?_ | refine sw_f ?_ | refine sw_no rfl ?_ | refine sw_yes rfl ?_)
      refine ap_fld a3 (k := 4) r3 (by decide) rfl (by simp only [List.length_append, List.length_cons, List.length_nil]; simp only at l1 l2 l3 l4 l5 l6; omega) xn.cl fun w4 v4 a4 r4 => ?_
      refine ap_fld a4 (k := 5) r4 (by decide) rfl (by simp only [List.length_append, List.length_cons, List.length_nil]; simp only at l1 l2 l3 l4 l5 l6; omega) xn.sz fun w5 v5 a5 r5 => ?_
      refine ap_lgs a5 (k := 7) r5 (by decide) rfl (by simp only [List.length_append, List.length_cons, List.length_nil]; simp only at l1 l2 l3 l4 l5 l6; omega) ha2 hF xn.lg (by simp only at hll ⊢; omega) fun w6 v6 a6 r6 => ?_
      refine fin w6 v6 ?_
      rw [show enc ⟨1, id, at', sl, cl, sz, li, legs⟩ = 1 :: (uI cl ++ uI sz ++ encLegs legs) from rfl]
      simpa only [List.append_assoc, List.singleton_append, List.cons_append, List.nil_append, List.append_nil] using a6
    · -- 22
      repeat (first | refine sw_t ?_ | refine sw_f ?_ | refine sw_no rfl ?_ | refine sw_yes rfl ?_)
      refine ap_fld a3 (k := 4) r3 (by decide) rfl (by simp only [List.length_append, List.length_cons, List.length_nil]; simp only at l1 l2 l3 l4 l5 l6; omega) xn.cl fun w4 v4 a4 r4 => ?_
      refine ap_fld a4 (k := 5) r4 (by decide) rfl (by simp only [List.length_append, List.length_cons, List.length_nil]; simp only at l1 l2 l3 l4 l5 l6; omega) xn.sz fun w5 v5 a5 r5 => ?_
      refine ap_lgs a5 (k := 7) r5 (by decide) rfl (by simp only [List.length_append, List.length_cons, List.length_nil]; simp only at l1 l2 l3 l4 l5 l6; omega) ha2 hF xn.lg (by simp only at hll ⊢; omega) fun w6 v6 a6 r6 => ?_
      refine fin w6 v6 ?_
      rw [show enc ⟨22, id, at', sl, cl, sz, li, legs⟩ = 22 :: (uI cl ++ uI sz ++ encLegs legs) from rfl]
      simpa only [List.append_assoc, List.singleton_append, List.cons_append, List.nil_append, List.append_nil] using a6
    · -- 5
      repeat (first | refine sw_t ?_ | refine sw_f ?_ | refine sw_no rfl ?_ | refine sw_yes rfl ?_)
      refine ap_fld a3 (k := 1) r3 (by decide) rfl (by simp only [List.length_append, List.length_cons, List.length_nil]; simp only at l1 l2 l3 l4 l5 l6; omega) xn.id fun w4 v4 a4 r4 => ?_
      refine ap_lgs a4 (k := 7) r4 (by decide) rfl (by simp only [List.length_append, List.length_cons, List.length_nil]; simp only at l1 l2 l3 l4 l5 l6; omega) ha2 hF xn.lg (by simp only at hll ⊢; omega) fun w5 v5 a5 r5 => ?_
      refine fin w5 v5 ?_
      rw [show enc ⟨5, id, at', sl, cl, sz, li, legs⟩ = 5 :: (uI id ++ encLegs legs) from rfl]
      simpa only [List.append_assoc, List.singleton_append, List.cons_append, List.nil_append, List.append_nil] using a5
    · -- 6
      repeat (first | refine sw_t ?_ | refine sw_f ?_ | refine sw_no rfl ?_ | refine sw_yes rfl ?_)
      refine ap_fld a3 (k := 2) r3 (by decide) rfl (by simp only [List.length_append, List.length_cons, List.length_nil]; simp only at l1 l2 l3 l4 l5 l6; omega) xn.at' fun w4 v4 a4 r4 => ?_
      refine ap_fld a4 (k := 4) r4 (by decide) rfl (by simp only [List.length_append, List.length_cons, List.length_nil]; simp only at l1 l2 l3 l4 l5 l6; omega) xn.cl fun w5 v5 a5 r5 => ?_
      refine ap_fld a5 (k := 5) r5 (by decide) rfl (by simp only [List.length_append, List.length_cons, List.length_nil]; simp only at l1 l2 l3 l4 l5 l6; omega) xn.sz fun w6 v6 a6 r6 => ?_
      refine fin w6 v6 ?_
      rw [show enc ⟨6, id, at', sl, cl, sz, li, legs⟩ = 6 :: (uI at' ++ uI cl ++ uI sz) from rfl]
      simpa only [List.append_assoc, List.singleton_append, List.cons_append, List.nil_append, List.append_nil] using a6
    · -- 2
      repeat (first | refine sw_t ?_ | refine sw_f ?_ | refine sw_no rfl ?_ | refine sw_yes rfl ?_)
      refine ap_fld a3 (k := 1) r3 (by decide) rfl (by simp only [List.length_append, List.length_cons, List.length_nil]; simp only at l1 l2 l3 l4 l5 l6; omega) xn.id fun w4 v4 a4 r4 => ?_
      refine fin w4 v4 ?_
      rw [show enc ⟨2, id, at', sl, cl, sz, li, legs⟩ = 2 :: (uI id) from rfl]
      simpa only [List.append_assoc, List.singleton_append, List.cons_append, List.nil_append, List.append_nil] using a4
    · -- 3
      repeat (first | refine sw_t ?_ | refine sw_f ?_ | refine sw_no rfl ?_ | refine sw_yes rfl ?_)
      refine ap_fld a3 (k := 1) r3 (by decide) rfl (by simp only [List.length_append, List.length_cons, List.length_nil]; simp only at l1 l2 l3 l4 l5 l6; omega) xn.id fun w4 v4 a4 r4 => ?_
      refine fin w4 v4 ?_
      rw [show enc ⟨3, id, at', sl, cl, sz, li, legs⟩ = 3 :: (uI id) from rfl]
      simpa only [List.append_assoc, List.singleton_append, List.cons_append, List.nil_append, List.append_nil] using a4
    · -- 4
      repeat (first | refine sw_t ?_ | refine sw_f ?_ | refine sw_no rfl ?_ | refine sw_yes rfl ?_)
      refine ap_fld a3 (k := 1) r3 (by decide) rfl (by simp only [List.length_append, List.length_cons, List.length_nil]; simp only at l1 l2 l3 l4 l5 l6; omega) xn.id fun w4 v4 a4 r4 => ?_
      refine fin w4 v4 ?_
      rw [show enc ⟨4, id, at', sl, cl, sz, li, legs⟩ = 4 :: (uI id) from rfl]
      simpa only [List.append_assoc, List.singleton_append, List.cons_append, List.nil_append, List.append_nil] using a4
    · -- 7
      repeat (first | refine sw_t ?_ | refine sw_f ?_ | refine sw_no rfl ?_ | refine sw_yes rfl ?_)
      refine ap_fld a3 (k := 1) r3 (by decide) rfl (by simp only [List.length_append, List.length_cons, List.length_nil]; simp only at l1 l2 l3 l4 l5 l6; omega) xn.id fun w4 v4 a4 r4 => ?_
      refine fin w4 v4 ?_
      rw [show enc ⟨7, id, at', sl, cl, sz, li, legs⟩ = 7 :: (uI id) from rfl]
      simpa only [List.append_assoc, List.singleton_append, List.cons_append, List.nil_append, List.append_nil] using a4
    · -- 8
      repeat (first | refine sw_t ?_ | refine sw_f ?_ | refine sw_no rfl ?_ | refine sw_yes rfl ?_)
      refine ap_fld a3 (k := 1) r3 (by decide) rfl (by simp only [List.length_append, List.length_cons, List.length_nil]; simp only at l1 l2 l3 l4 l5 l6; omega) xn.id fun w4 v4 a4 r4 => ?_
      refine fin w4 v4 ?_
      rw [show enc ⟨8, id, at', sl, cl, sz, li, legs⟩ = 8 :: (uI id) from rfl]
      simpa only [List.append_assoc, List.singleton_append, List.cons_append, List.nil_append, List.append_nil] using a4
    · -- 16
      repeat (first | refine sw_t ?_ | refine sw_f ?_ | refine sw_no rfl ?_ | refine sw_yes rfl ?_)
      refine ap_fld a3 (k := 1) r3 (by decide) rfl (by simp only [List.length_append, List.length_cons, List.length_nil]; simp only at l1 l2 l3 l4 l5 l6; omega) xn.id fun w4 v4 a4 r4 => ?_
      refine fin w4 v4 ?_
      rw [show enc ⟨16, id, at', sl, cl, sz, li, legs⟩ = 16 :: (uI id) from rfl]
      simpa only [List.append_assoc, List.singleton_append, List.cons_append, List.nil_append, List.append_nil] using a4
    · -- 24
      repeat (first | refine sw_t ?_ | refine sw_f ?_ | refine sw_no rfl ?_ | refine sw_yes rfl ?_)
      refine ap_fld a3 (k := 1) r3 (by decide) rfl (by simp only [List.length_append, List.length_cons, List.length_nil]; simp only at l1 l2 l3 l4 l5 l6; omega) xn.id fun w4 v4 a4 r4 => ?_
      refine fin w4 v4 ?_
      rw [show enc ⟨24, id, at', sl, cl, sz, li, legs⟩ = 24 :: (uI id) from rfl]
      simpa only [List.append_assoc, List.singleton_append, List.cons_append, List.nil_append, List.append_nil] using a4
    · -- 17
      repeat (first | refine sw_t ?_ | refine sw_f ?_ | refine sw_no rfl ?_ | refine sw_yes rfl ?_)
      refine ap_fld a3 (k := 1) r3 (by decide) rfl (by simp only [List.length_append, List.length_cons, List.length_nil]; simp only at l1 l2 l3 l4 l5 l6; omega) xn.id fun w4 v4 a4 r4 => ?_
      refine ap_fld a4 (k := 6) r4 (by decide) rfl (by simp only [List.length_append, List.length_cons, List.length_nil]; simp only at l1 l2 l3 l4 l5 l6; omega) xn.li fun w5 v5 a5 r5 => ?_
      refine fin w5 v5 ?_
      rw [show enc ⟨17, id, at', sl, cl, sz, li, legs⟩ = 17 :: (uI id ++ uI li) from rfl]
      simpa only [List.append_assoc, List.singleton_append, List.cons_append, List.nil_append, List.append_nil] using a5
    · -- 18
      repeat (first | refine sw_t ?_ | refine sw_f ?_ | refine sw_no rfl ?_ | refine sw_yes rfl ?_)
      refine ap_fld a3 (k := 2) r3 (by decide) rfl (by simp only [List.length_append, List.length_cons, List.length_nil]; simp only at l1 l2 l3 l4 l5 l6; omega) xn.at' fun w4 v4 a4 r4 => ?_
      refine ap_fld a4 (k := 3) r4 (by decide) rfl (by simp only [List.length_append, List.length_cons, List.length_nil]; simp only at l1 l2 l3 l4 l5 l6; omega) xn.sl fun w5 v5 a5 r5 => ?_
      refine fin w5 v5 ?_
      rw [show enc ⟨18, id, at', sl, cl, sz, li, legs⟩ = 18 :: (uI at' ++ uI sl) from rfl]
      simpa only [List.append_assoc, List.singleton_append, List.cons_append, List.nil_append, List.append_nil] using a5
    · -- 19
      repeat (first | refine sw_t ?_ | refine sw_f ?_ | refine sw_no rfl ?_ | refine sw_yes rfl ?_)
      refine ap_fld a3 (k := 2) r3 (by decide) rfl (by simp only [List.length_append, List.length_cons, List.length_nil]; simp only at l1 l2 l3 l4 l5 l6; omega) xn.at' fun w4 v4 a4 r4 => ?_
      refine fin w4 v4 ?_
      rw [show enc ⟨19, id, at', sl, cl, sz, li, legs⟩ = 19 :: (uI at') from rfl]
      simpa only [List.append_assoc, List.singleton_append, List.cons_append, List.nil_append, List.append_nil] using a4
    · -- 21
      repeat (first | refine sw_t ?_ | refine sw_f ?_ | refine sw_no rfl ?_ | refine sw_yes rfl ?_)
      refine ap_fld a3 (k := 2) r3 (by decide) rfl (by simp only [List.length_append, List.length_cons, List.length_nil]; simp only at l1 l2 l3 l4 l5 l6; omega) xn.at' fun w4 v4 a4 r4 => ?_
      refine ap_fld a4 (k := 4) r4 (by decide) rfl (by simp only [List.length_append, List.length_cons, List.length_nil]; simp only at l1 l2 l3 l4 l5 l6; omega) xn.cl fun w5 v5 a5 r5 => ?_
      refine ap_fld a5 (k := 5) r5 (by decide) rfl (by simp only [List.length_append, List.length_cons, List.length_nil]; simp only at l1 l2 l3 l4 l5 l6; omega) xn.sz fun w6 v6 a6 r6 => ?_
      refine ap_fld a6 (k := 3) r6 (by decide) rfl (by simp only [List.length_append, List.length_cons, List.length_nil]; simp only at l1 l2 l3 l4 l5 l6; omega) xn.sl fun w7 v7 a7 r7 => ?_
      refine fin w7 v7 ?_
      rw [show enc ⟨21, id, at', sl, cl, sz, li, legs⟩ = 21 :: (uI at' ++ uI cl ++ uI sz ++ uI sl) from rfl]
      simpa only [List.append_assoc, List.singleton_append, List.cons_append, List.nil_append, List.append_nil] using a7
    · -- 9
      repeat (first | refine sw_t ?_ | refine sw_f ?_ | refine sw_no rfl ?_ | refine sw_yes rfl ?_)
      refine fin w3 v3 ?_
      rw [show enc ⟨9, id, at', sl, cl, sz, li, legs⟩ = 9 :: ([]) from rfl]
      simpa only [List.append_assoc, List.singleton_append, List.cons_append, List.nil_append, List.append_nil] using a3
    · -- 20
      repeat (first | refine sw_t ?_ | refine sw_f ?_ | refine sw_no rfl ?_ | refine sw_yes rfl ?_)
      refine fin w3 v3 ?_
      rw [show enc ⟨20, id, at', sl, cl, sz, li, legs⟩ = 20 :: ([]) from rfl]
      simpa only [List.append_assoc, List.singleton_append, List.cons_append, List.nil_append, List.append_nil] using a3
    · -- 23
      repeat (first | refine sw_t ?_ | refine sw_f ?_ | refine sw_no rfl ?_ | refine sw_yes rfl ?_)
      refine fin w3 v3 ?_
      rw [show enc ⟨23, id, at', sl, cl, sz, li, legs⟩ = 23 :: ([]) from rfl]
      simpa only [List.append_assoc, List.singleton_append, List.cons_append, List.nil_append, List.append_nil] using a3
theorem encReq_ok (hq : Qv F w l q) (hn : RqN q) (hK : (xpr q = false → ∀ w', Kp Emp w w' → K (.tuple #[nilS, .bool false]) w') ∧ (xpr q = true → ∀ w' v' b, Sl bC 1 w' 5 (some b) v' (enc q) → Nb w w' b → Kp Emp w w' → K (.tuple #[v', .bool true]) w')) :
    cl Tryz.prog 30 #[.agg l.toArray] K w := by
  obtain ⟨lv, rfl, ha⟩ := hq
  apply c30
  unfold s30_p1
  refine nw_r fun w1 r1 hk1 hz1 => ?_
  replace r1 : Row w1 w.heap.size 49 (q.cells lv) := r1
  refine ldn_r r1 (show 0 + 8 ≤ 8 by decide) ?_
  refine appReq_ok (ob := none) (ys := []) ⟨rfl, rfl⟩ (by simp) (show Qv F w1 (q.cells lv) q from ⟨lv, rfl, ha.kp' hk1⟩) hn (fun b _ e => by cases e) ⟨fun hx w2 hk2 => ?_, fun hx w2 v2 ob2 s2 hk2 o2 => ?_⟩
  · simp only [ex2_0, ex2_1, Bool.not_false, e_fd, e_nck, e_pkt, e_pkf, e_gdtt, e_gdtf, e_gdft, e_gdff, e_ift, e_iff, e_not, e_ln, e_lnT, e_cp, e_cvi, e_ex20, e_ex21, e_ex30, e_ex31, e_ex32, e_add, e_sub, e_mul, e_quo, e_rem, e_and, e_or, e_xor, e_shl, e_shr, e_eql, e_neq, e_lss, e_leq, e_gtr, e_geq, e_beq, e_bne, e_peq1, e_peq2, e_pne1, e_pne2, e_zeq1, e_zeq2, e_zne1, e_zne2, e_feq1, e_fne1, e_feq2, e_fne2, e_seq, e_sne, e_ta1, e_ta2, Nat.zero_add, Nat.add_zero, Bool.not_true, Bool.not_false]
    exact hK.1 hx w2 (hk1.trans hk2)
  · simp only [ex2_0, ex2_1, Bool.not_true, e_fd, e_nck, e_pkt, e_pkf, e_gdtt, e_gdtf, e_gdft, e_gdff, e_ift, e_iff, e_not, e_ln, e_lnT, e_cp, e_cvi, e_ex20, e_ex21, e_ex30, e_ex31, e_ex32, e_add, e_sub, e_mul, e_quo, e_rem, e_and, e_or, e_xor, e_shl, e_shr, e_eql, e_neq, e_lss, e_leq, e_gtr, e_geq, e_beq, e_bne, e_peq1, e_peq2, e_pne1, e_pne2, e_zeq1, e_zeq2, e_zne1, e_zne2, e_feq1, e_fne1, e_feq2, e_fne2, e_seq, e_sne, e_ta1, e_ta2, Nat.zero_add, Nat.add_zero, Bool.not_true, Bool.not_false]
    rcases o2 with rfl | ⟨b, rfl, hb⟩
    · obtain ⟨_, e⟩ := s2
      simp [enc] at e
    · exact hK.2 hx w2 v2 b s2 ⟨by omega, s2.lt⟩ (hk1.trans (hk2.mono fun b _ e => by cases e))
/-- an entry of the journal -/
def ent (seq : Int) (q : Rq) : List Int := uI seq ++ enc q
theorem appEnt_ok {seq : Int} (h : Sl bC 1 w 5 ob v ys) (hl : ys.length ≤ 900000) (hs : N63 seq) (hq : Qv F w l q) (hn : RqN q) (hx : xpr q = true) (hF : ∀ b, F b → ob ≠ some b) (hF2 : ∀ b, F b → b < w.heap.size)
    (hK : ∀ w' v' ob', Sl bC 1 w' 5 ob' v' (ys ++ ent seq q) → Kp (fun b => ob = some b) w w' → (ob' = ob ∨ ∃ b, ob' = some b ∧ w.heap.size ≤ b) → K v' w') : cl Tryz.prog 154 #[v, I seq, .agg l.toArray] K w := by
  obtain ⟨lv, rfl, ha⟩ := hq
  apply c154
  unfold s154_p1
  refine nw_r fun w1 r1 hk1 hz1 => ?_
  replace r1 : Row w1 w.heap.size 49 (q.cells lv) := r1
  refine (Ap.new (h.kp' hk1)).num (by omega) hs fun w2 v2 a2 k2 => ?_
  refine ldn_r (k2 _ _ _ r1 (by decide)) (show 0 + 8 ≤ 8 by decide) ?_
  obtain ⟨ob2, s2, kk2, o2⟩ := a2
  have sz1 := kk2.size
  refine appReq_ok s2 (by have := uI_len seq; rw [List.length_append]; omega) (show Qv F w2 (q.cells lv) q from ⟨lv, rfl, (ha.kp' hk1).kp kk2 fun b hb e => hF b hb e⟩) hn (fun b hb e => ?_) ⟨(fun e => by rw [hx] at e; cases e), fun _ w3 v3 ob3 s3 hk3 o3 => ?_⟩
  · rcases o2 with o | ⟨c, o, hc⟩
    · exact hF b hb (o ▸ e)
    · rw [o] at e; cases e; have := hF2 _ hb; omega
  · simp only [ex2_0, ex2_1]
    rw [List.append_assoc] at s3
    obtain ⟨⟨ob3', s3', k3', o3'⟩, _⟩ := Ap.join s2 kk2 o2 s3 hk3 o3
    refine hK w3 v3 ob3' s3' (hk1.none.trans k3') ?_
    rcases o3' with o | ⟨c, o, hc⟩
    · exact .inl o
    · exact .inr ⟨c, o, by omega⟩
/-- an entry is taken apart -/
def par (bs : List Int) : Nat × Rq × Bool :=
  if (rNum (bs, false)).2.2 = true then (0, rq0, false) else ((rNum (bs, false)).1, (dec (rNum (bs, false)).2.1).1, (dec (rNum (bs, false)).2.1).2 == 0)
theorem par_ok {bs : List Int} (h : Ar bC 1 F w v bs) (hb : By bs) (hF : ∀ b, F b → b < w.heap.size) (hK : ∀ w' l, Kp Emp w w' → Qv (Nb w w') w' l (par bs).2.1 → K (.tuple #[I ((par bs).1 : Nat), .agg l.toArray, .bool (par bs).2.2]) w') : cl Tryz.prog 86 #[v] K w := by
  apply c86
  unfold s86_p3
  refine nw_r fun w1 r1 hk1 hz1 => ?_
  replace r1 : Row w1 w.heap.size 49 (rq0.cells nilS) := r1
  refine rd_new (h.kp' hk1) hb (fun b q => by have := hF b q; omega) fun w2 d2 hk2 hz2 => ?_
  refine rnum_ok d2 fun w3 d3 hk3 => ?_
  unfold par at hK
  obtain ⟨bv, pre, rr, _⟩ := id d3
  try simp only [e_fd, e_nck, e_pkt, e_pkf, e_gdtt, e_gdtf, e_gdft, e_gdff, e_ift, e_iff, e_not, e_ln, e_lnT, e_cp, e_cvi, e_ex20, e_ex21, e_ex30, e_ex31, e_ex32, e_add, e_sub, e_mul, e_quo, e_rem, e_and, e_or, e_xor, e_shl, e_shr, e_eql, e_neq, e_lss, e_leq, e_gtr, e_geq, e_beq, e_bne, e_peq1, e_peq2, e_pne1, e_pne2, e_zeq1, e_zeq2, e_zne1, e_zne2, e_feq1, e_fne1, e_feq2, e_fne2, e_seq, e_sne, e_ta1, e_ta2, Nat.zero_add, Nat.add_zero, Bool.not_true, Bool.not_false]
  refine ld1_r rr rfl ?_
  have r3 := hk3.row (hk2.row' r1) (show ¬ w.heap.size = w1.heap.size by omega)
  have k3 : Kp Emp w w3 := (hk1.trans hk2).then hk3 fun k hk (q : k = _) => by omega
  have sz3 := hk3.size
  cases hc : (rNum (bs, false)).2.2 with
  | true =>
    rw [if_pos hc] at hK
    try simp only [e_fd, e_nck, e_pkt, e_pkf, e_gdtt, e_gdtf, e_gdft, e_gdff, e_ift, e_iff, e_not, e_ln, e_lnT, e_cp, e_cvi, e_ex20, e_ex21, e_ex30, e_ex31, e_ex32, e_add, e_sub, e_mul, e_quo, e_rem, e_and, e_or, e_xor, e_shl, e_shr, e_eql, e_neq, e_lss, e_leq, e_gtr, e_geq, e_beq, e_bne, e_peq1, e_peq2, e_pne1, e_pne2, e_zeq1, e_zeq2, e_zne1, e_zne2, e_feq1, e_fne1, e_feq2, e_fne2, e_seq, e_sne, e_ta1, e_ta2, Nat.zero_add, Nat.add_zero, Bool.not_true, Bool.not_false]
    refine bdq_r (l := rq0.cells nilS) rfl ?_
    refine stn_r (cs := rq0.cells nilS) r3 rfl (show 0 + 8 ≤ 8 by decide) rfl fun w4 r4 hk4 hz4 => ?_
    replace r4 : Row w4 w.heap.size 49 (rq0.cells nilS) := r4
    refine ldn_r r4 (show 0 + 8 ≤ 8 by decide) ?_
    exact hK w4 (rq0.cells nilS) (k3.then hk4 fun k hk (q : k = _) => by omega) ⟨nilS, rfl, Ar.nil⟩
  | false =>
    rw [if_neg (show ¬ (rNum (bs, false)).2.2 = true by rw [hc]; simp)] at hK
    try simp only [e_fd, e_nck, e_pkt, e_pkf, e_gdtt, e_gdtf, e_gdft, e_gdff, e_ift, e_iff, e_not, e_ln, e_lnT, e_cp, e_cvi, e_ex20, e_ex21, e_ex30, e_ex31, e_ex32, e_add, e_sub, e_mul, e_quo, e_rem, e_and, e_or, e_xor, e_shl, e_shr, e_eql, e_neq, e_lss, e_leq, e_gtr, e_geq, e_beq, e_bne, e_peq1, e_peq2, e_pne1, e_pne2, e_zeq1, e_zeq2, e_zne1, e_zne2, e_feq1, e_fne1, e_feq2, e_fne2, e_seq, e_sne, e_ta1, e_ta2, Nat.zero_add, Nat.add_zero, Bool.not_true, Bool.not_false]
    refine rrest_ok d3 fun w4 v4 d4 h4 hk4 => ?_
    have sz4 := hk4.size
    refine dec_ok h4 d3.by_ (fun b q => by have := hF b q; omega) fun w5 l5 hk5 hq5 => ?_
    obtain ⟨lv, rfl, hlv⟩ := hq5
    generalize (dec (rNum (bs, false)).2.1).1 = q at hK hlv ⊢
    generalize (dec (rNum (bs, false)).2.1).2 = c at hK ⊢
    simp only [ex2_0, ex2_1]
    have r5 := hk5.row' (hk4.row r3 (show ¬ w.heap.size = w1.heap.size by omega))
    have hcs : (q.cells lv).all scal = true := by simp only [Rq.cells, List.all_cons, List.all_nil, hlv.scal]; rfl
    refine stn_r (cs := q.cells lv) r5 rfl (show 0 + 8 ≤ 8 by decide) hcs fun w6 r6 hk6 hz6 => ?_
    replace r6 : Row w6 w.heap.size 49 (q.cells lv) := r6
    have k6 : Kp Emp w w6 := (((k3.then hk4 fun k hk (q : k = _) => by omega).trans hk5).then hk6 fun k hk (q : k = _) => by omega)
    have hlv6 := hlv.kp hk6 fun b hb (e : b = _) => by have := hb.1; omega
    unfold s86_p2 s86_p2_d
    have kd : Kp Emp w6 (drw w6) := kp_drw
    generalize drw w6 = w7 at kd ⊢
    simp only [and_self, e_fd, e_nck, e_pkt, e_pkf, e_gdtt, e_gdtf, e_gdft, e_gdff, e_ift, e_iff, e_not, e_ln, e_lnT, e_cp, e_cvi, e_ex20, e_ex21, e_ex30, e_ex31, e_ex32, e_add, e_sub, e_mul, e_quo, e_rem, e_and, e_or, e_xor, e_shl, e_shr, e_eql, e_neq, e_lss, e_leq, e_gtr, e_geq, e_beq, e_bne, e_peq1, e_peq2, e_pne1, e_pne2, e_zeq1, e_zeq2, e_zne1, e_zne2, e_feq1, e_fne1, e_feq2, e_fne2, e_seq, e_sne, e_ta1, e_ta2, Nat.zero_add, Nat.add_zero, Bool.not_true, Bool.not_false]
    refine ldn_r (kd.row' r6) (show 0 + 8 ≤ 8 by decide) ?_
    refine stn_r (cs := q.cells lv) (kd.row' r6) rfl (show 0 + 8 ≤ 8 by decide) hcs fun w8 r8 hk8 hz8 => ?_
    replace r8 : Row w8 w.heap.size 49 (q.cells lv) := r8
    unfold s86_p1
    refine ldn_r r8 (show 0 + 8 ≤ 8 by decide) ?_
    have e1 : (((c : Nat) : Int) == 0) = (c == 0) := by
      by_cases e : c = 0
      · rw [e]; rfl
      · have h1 : (((c : Nat) : Int) == 0) = false := by rw [beq_eq_false_iff_ne]; omega
        have h2 : (c == 0) = false := by rw [beq_eq_false_iff_ne]; omega
        rw [h1, h2]
    rw [e1]
    have sz7 := kd.size
    exact hK w8 (q.cells lv) ((k6.trans kd).then hk8 fun k hk (q : k = _) => by omega) ⟨lv, rfl, ((hlv6.kp' kd).kp hk8 fun b hb (e : b = _) => by have := hb.1; omega).mono fun b hb => ⟨by have := hb.1; omega, by have := hb.2; omega⟩⟩
end
end Go.Proofs.Qxb6500896aGreatDoor
