import Derived.Test.Qxb6500896aGreatDoorK24
namespace Go.Proofs.Qxb6500896aGreatDoor
open Go.Sh Go.RowKit
set_option linter.unusedVariables false
set_option linter.unusedSimpArgs false

/-- a request -/
structure Rq where
  op : Int
  id : Int
  at' : Int
  sl : Int
  cl : Int
  sz : Int
  li : Int
  legs : List Leg
def rq0 : Rq := ⟨0, 0, 0, 0, 0, 0, 0, []⟩
def Rq.cells (q : Rq) (lv : Value) : List Value := [U8 q.op, I q.id, I q.at', I q.sl, I q.cl, I q.sz, I q.li, lv]
/-- a request in memory -/
def Qv (F : Nat → Prop) (w : World) (l : List Value) (q : Rq) : Prop := ∃ lv, l = q.cells lv ∧ Ar lC 2 F w lv q.legs
def dIds : List Int := [2, 3, 4, 7, 8, 16, 24]
/-- the arguments of a request of kind b -/
def decB (b : Int) (s : RS) : Rq × RS :=
  if b = 1 ∨ b = 22 then
    (⟨b, 0, 0, 0, ((rNum s).1 : Nat), ((rNum (rNum s).2).1 : Nat), 0, (rLegs 8 (rNum (rNum s).2).2).1⟩, (rLegs 8 (rNum (rNum s).2).2).2)
  else if b = 5 then (⟨b, ((rNum s).1 : Nat), 0, 0, 0, 0, 0, (rLegs 8 (rNum s).2).1⟩, (rLegs 8 (rNum s).2).2)
  else if b = 6 then (⟨b, 0, ((rNum s).1 : Nat), 0, ((rNum (rNum s).2).1 : Nat), ((rNum (rNum (rNum s).2).2).1 : Nat), 0, []⟩, (rNum (rNum (rNum s).2).2).2)
  else if b ∈ dIds then (⟨b, ((rNum s).1 : Nat), 0, 0, 0, 0, 0, []⟩, (rNum s).2)
  else if b = 17 then (⟨b, ((rNum s).1 : Nat), 0, 0, 0, 0, ((rNum (rNum s).2).1 : Nat), []⟩, (rNum (rNum s).2).2)
  else if b = 18 then (⟨b, 0, ((rNum s).1 : Nat), ((rNum (rNum s).2).1 : Nat), 0, 0, 0, []⟩, (rNum (rNum s).2).2)
  else if b = 19 then (⟨b, 0, ((rNum s).1 : Nat), 0, 0, 0, 0, []⟩, (rNum s).2)
  else if b = 21 then (⟨b, 0, ((rNum s).1 : Nat), ((rNum (rNum (rNum (rNum s).2).2).2).1 : Nat), ((rNum (rNum s).2).1 : Nat), ((rNum (rNum (rNum s).2).2).1 : Nat), 0, []⟩, (rNum (rNum (rNum (rNum s).2).2).2).2)
  else if b = 9 ∨ b = 20 ∨ b = 23 then (⟨b, 0, 0, 0, 0, 0, 0, []⟩, s)
  else (⟨b, 0, 0, 0, 0, 0, 0, []⟩, ([], true))
def decE (r : Rq × RS) : Rq × Nat := if rDone r.2 = true then (r.1, 0) else (rq0, 1)
/-- a request from its bytes, and whether they are one -/
def dec (bs : List Int) : Rq × Nat := decE (decB (rOct (bs, false)).1 (rOct (bs, false)).2)

section
variable {F G S : Nat → Prop} {w w' : World} {v lv : Value} {rb qb t2 : Nat} {s : RS} {q : Rq} {K : Value → World → Prop} {l : List Value}
theorem sw_no {k : IntKind} {a b : Int} {A B : Value → World → Prop} (h : (a == b) = false) (hB : B (.bool false) w) : boI .eql (.int k a) (.int k b) (fun t w => ifb t (A t w) (B t w)) w := by
  simp only [h, e_fd, e_nck, e_pkt, e_pkf, e_gdtt, e_gdtf, e_gdft, e_gdff, e_ift, e_iff, e_not, e_ln, e_lnT, e_cp, e_cvi, e_ex20, e_ex21, e_ex30, e_ex31, e_ex32, e_add, e_sub, e_mul, e_quo, e_rem, e_and, e_or, e_xor, e_shl, e_shr, e_eql, e_neq, e_lss, e_leq, e_gtr, e_geq, e_beq, e_bne, e_peq1, e_peq2, e_pne1, e_pne2, e_zeq1, e_zeq2, e_zne1, e_zne2, e_feq1, e_fne1, e_feq2, e_fne2, e_seq, e_sne, e_ta1, e_ta2, Nat.zero_add, Nat.add_zero, Bool.not_true, Bool.not_false]
  exact hB
theorem sw_yes {k : IntKind} {a b : Int} {A B : Value → World → Prop} (h : (a == b) = true) (hA : A (.bool true) w) : boI .eql (.int k a) (.int k b) (fun t w => ifb t (A t w) (B t w)) w := by
  simp only [h, e_fd, e_nck, e_pkt, e_pkf, e_gdtt, e_gdtf, e_gdft, e_gdff, e_ift, e_iff, e_not, e_ln, e_lnT, e_cp, e_cvi, e_ex20, e_ex21, e_ex30, e_ex31, e_ex32, e_add, e_sub, e_mul, e_quo, e_rem, e_and, e_or, e_xor, e_shl, e_shr, e_eql, e_neq, e_lss, e_leq, e_gtr, e_geq, e_beq, e_bne, e_peq1, e_peq2, e_pne1, e_pne2, e_zeq1, e_zeq2, e_zne1, e_zne2, e_feq1, e_fne1, e_feq2, e_fne2, e_seq, e_sne, e_ta1, e_ta2, Nat.zero_add, Nat.add_zero, Bool.not_true, Bool.not_false]
  exact hA
theorem sw_t {A B : Prop} (hA : A) : ifb (.bool true) A B := hA
theorem sw_f {A B : Prop} (hB : B) : ifb (.bool false) A B := hB
/-- a number is read into a field -/
theorem rq_num {k : Nat} {X : World → Prop} {T : TypeId} (h : Rd F w rb s) (hq : Row w qb T l) (hk : k < l.length) (hr : rb ≠ qb) (hF : ∀ b, F b → b ≠ qb)
    (hX : ∀ w', Rd F w' rb (rNum s).2 → Row w' qb T (l.set k (I ((rNum s).1 : Nat))) → Kp (fun b => b = rb ∨ b = qb) w w' → X w') :
    cl Tryz.prog 39 #[P rb 0] (fun t w => fd k (P qb 0) (fun p w => st1 p t (fun w => X w) w) w) w := by
  refine rnum_ok h fun w1 r1 hk1 => ?_
  show st1 ((⟨qb, 0, none⟩ : Addr).add k |> some |> Value.pointer) _ _ _
  rw [add_mk, Nat.zero_add]
  refine st1_r (hk1.row hq (fun e => hr e.symm)) hk rfl fun w2 r2 hk2 hz2 => ?_
  exact hX w2 (r1.kp hk2 hF hr) r2 ((hk1.mono fun b _ q => .inl q).trans (hk2.mono fun b _ q => .inr q))
theorem rq_legs {X : World → Prop} {T : TypeId} {k : Nat} (h : Rd F w rb s) (hq : Row w qb T l) (hk : k < l.length) (hr : rb ≠ qb) (hF : ∀ b, F b → b ≠ qb) (hFw : ∀ b, F b → b < w.heap.size)
    (hX : ∀ w' lv, Rd F w' rb (rLegs 8 s).2 → Row w' qb T (l.set k lv) → Ar lC 2 (Nb w w') w' lv (rLegs 8 s).1 → Kp (fun b => b = rb ∨ b = qb) w w' → X w') :
    cl Tryz.prog 40 #[P rb 0, I 8] (fun t w => fd k (P qb 0) (fun p w => st1 p t (fun w => X w) w) w) w := by
  have hql := hq.lt
  refine rlegs_ok (m := 8) (by decide) h hFw fun w1 lv r1 hl hk1 => ?_
  show st1 ((⟨qb, 0, none⟩ : Addr).add k |> some |> Value.pointer) _ _ _
  rw [add_mk, Nat.zero_add]
  refine st1_r (hk1.row hq (fun e => hr e.symm)) hk hl.scal fun w2 r2 hk2 hz2 => ?_
  have hz1 := hk1.size
  refine hX w2 lv (r1.kp hk2 hF hr) r2 ?_ ((hk1.mono fun b _ q => .inl q).trans (hk2.mono fun b _ q => .inr q))
  exact (hl.kp hk2 fun b hb (q : b = qb) => by have := hb.1; omega).mono fun b hb => ⟨hb.1, by have := hb.2; omega⟩
/-- the end of it -/
theorem dec_end {w0 : World} (h : Rd F w rb s) (hq : Row w qb 49 (q.cells lv)) (hl : Ar lC 2 G w lv q.legs) (hG : ∀ b, G b → Nb w0 w b ∧ b ≠ t2) (r2 : Row w t2 49 (rq0.cells nilS)) (h2 : w0.heap.size ≤ t2) (hqt : qb ≠ t2) (k0 : Kp Emp w0 w)
    (hK : ∀ w' l, Kp Emp w0 w' → Qv (Nb w0 w') w' l (decE (q, s)).1 → K (.tuple #[.agg l.toArray, I ((decE (q, s)).2 : Nat)]) w') : s13_p1 K (P t2 0) (P rb 0) (P qb 0) w := by
  unfold s13_p1
  refine rdone_ok h fun w1 hk1 => ?_
  have k1 := k0.trans hk1
  have r2' := hk1.row' r2
  unfold decE at hK
  simp only at hK
  cases hd : rDone s with
  | true =>
    rw [if_pos hd] at hK
    simp only [Bool.not_true, e_fd, e_nck, e_pkt, e_pkf, e_gdtt, e_gdtf, e_gdft, e_gdff, e_ift, e_iff, e_not, e_ln, e_lnT, e_cp, e_cvi, e_ex20, e_ex21, e_ex30, e_ex31, e_ex32, e_add, e_sub, e_mul, e_quo, e_rem, e_and, e_or, e_xor, e_shl, e_shr, e_eql, e_neq, e_lss, e_leq, e_gtr, e_geq, e_beq, e_bne, e_peq1, e_peq2, e_pne1, e_pne2, e_zeq1, e_zeq2, e_zne1, e_zne2, e_feq1, e_fne1, e_feq2, e_fne2, e_seq, e_sne, e_ta1, e_ta2, Nat.zero_add, Nat.add_zero, Bool.not_true, Bool.not_false]
    refine ldn_r (hk1.row' hq) (show 0 + 8 ≤ 8 by decide) ?_
    rw [List.drop_zero]
    refine stn_r (cs := q.cells lv) r2' rfl (show 0 + 8 ≤ 8 by decide) (by simp only [Rq.cells, List.all_cons, List.all_nil, hl.scal]; rfl) fun w2 r3 hk2 hz2 => ?_
    replace r3 : Row w2 t2 49 (q.cells lv) := r3
    refine ldn_r r3 (show 0 + 8 ≤ 8 by decide) ?_
    have hkk : Kp Emp w0 w2 := k1.then hk2 fun k hk (q : k = _) => by omega
    have hz1 := hk1.size
    refine hK w2 (q.cells lv) hkk ⟨lv, rfl, ((hl.kp' hk1).kp hk2 fun b hb e => (hG b hb).2 e).mono fun b hb => ⟨(hG b hb).1.1, by have := (hG b hb).1.2; omega⟩⟩
  | false =>
    rw [if_neg (show ¬ rDone s = true by rw [hd]; simp)] at hK
    simp only [Bool.not_false, e_fd, e_nck, e_pkt, e_pkf, e_gdtt, e_gdtf, e_gdft, e_gdff, e_ift, e_iff, e_not, e_ln, e_lnT, e_cp, e_cvi, e_ex20, e_ex21, e_ex30, e_ex31, e_ex32, e_add, e_sub, e_mul, e_quo, e_rem, e_and, e_or, e_xor, e_shl, e_shr, e_eql, e_neq, e_lss, e_leq, e_gtr, e_geq, e_beq, e_bne, e_peq1, e_peq2, e_pne1, e_pne2, e_zeq1, e_zeq2, e_zne1, e_zne2, e_feq1, e_fne1, e_feq2, e_fne2, e_seq, e_sne, e_ta1, e_ta2, Nat.zero_add, Nat.add_zero, Bool.not_true, Bool.not_false]
    refine bdq_r (l := rq0.cells nilS) rfl ?_
    refine stn_r (cs := rq0.cells nilS) r2' rfl (show 0 + 8 ≤ 8 by decide) rfl fun w2 r3 hk2 hz2 => ?_
    replace r3 : Row w2 t2 49 (rq0.cells nilS) := r3
    refine ldn_r r3 (show 0 + 8 ≤ 8 by decide) ?_
    have hkk : Kp Emp w0 w2 := k1.then hk2 fun k hk (q : k = _) => by omega
    exact hK w2 (rq0.cells nilS) hkk ⟨nilS, rfl, Ar.nil⟩
set_option maxHeartbeats 4000000 in
theorem dec_ok {bs : List Int} (h : Ar bC 1 F w v bs) (hb : By bs) (hF : ∀ b, F b → b < w.heap.size) (hK : ∀ w' l, Kp Emp w w' → Qv (Nb w w') w' l (dec bs).1 → K (.tuple #[.agg l.toArray, I ((dec bs).2 : Nat)]) w') : cl Tryz.prog 13 #[v] K w := by
  apply c13
  unfold s13_p2
  refine nw_r fun w1 r1 hk1 hz1 => ?_
  replace r1 : Row w1 w.heap.size 49 (rq0.cells nilS) := r1
  refine rd_new (h.kp' hk1) hb (fun b q => by have := hF b q; omega) fun w2 d2 hk2 hz2 => ?_
  refine roct_ok d2 fun w3 d3 hk3 => ?_
  unfold dec at hK
  generalize (rOct (bs, false)).1 = b at hK ⊢
  generalize (rOct (bs, false)).2 = s at hK d3
  refine bdq_r (l := (⟨b, 0, 0, 0, 0, 0, 0, []⟩ : Rq).cells nilS) rfl ?_
  refine nw_r fun w4 r4 hk4 hz4 => ?_
  refine stn_r (cs := (⟨b, 0, 0, 0, 0, 0, 0, []⟩ : Rq).cells nilS) r4 rfl (show 0 + 8 ≤ 8 by decide) rfl fun w5 r5 hk5 hz5 => ?_
  have hz3 := hk3.size
  have rlt := d3.lt
  generalize hqb : w3.heap.size = qb at r4 r5 hk5 ⊢
  generalize hrb : w1.heap.size = rb at d2 d3 hk3 rlt ⊢
  generalize ht2 : w.heap.size = t2 at r1 ⊢
  replace r5 : Row w5 qb 49 ((⟨b, 0, 0, 0, 0, 0, 0, []⟩ : Rq).cells nilS) := r5
  have hF5 : ∀ b, F b → b ≠ qb := fun b q => by have := hF b q; omega
  have d5 : Rd F w5 rb s := (d3.kp' hk4).kp hk5 hF5 (by omega)
  have k5 : Kp Emp w w5 := ((((hk1.trans hk2).then hk3 fun k hk (q : k = rb) => by omega).trans hk4).then hk5 fun k hk (q : k = qb) => by omega)
  have rt5 : Row w5 t2 49 (rq0.cells nilS) := hk5.row (hk4.row' (hk3.row (hk2.row' r1) (by omega))) (by omega)
  have hsz : t2 < rb ∧ rb < qb ∧ qb < w5.heap.size := ⟨by omega, by omega, by omega⟩
  have hFw : ∀ b, F b → b < w5.heap.size := fun b q => by have := hF b q; omega
  clear hk1 hk2 hk3 hk4 hk5 r4 d2 d3 hz2 hz3 hz4 hz5 rlt
  simp only [show fd 0 (P qb 0) = fun (K : Value → World → Prop) w => K (P qb 0) w from rfl]
  refine ld1_r r5 rfl ?_
  have hcases : b = 1 ∨ b = 22 ∨ b = 5 ∨ b = 6 ∨ b = 2 ∨ b = 3 ∨ b = 4 ∨ b = 7 ∨ b = 8 ∨ b = 16 ∨ b = 24 ∨ b = 17 ∨ b = 18 ∨ b = 19 ∨ b = 21 ∨ b = 9 ∨ b = 20 ∨ b = 23 ∨ (b ≠ 1 ∧ b ≠ 22 ∧ b ≠ 5 ∧ b ≠ 6 ∧ b ≠ 2 ∧ b ≠ 3 ∧ b ≠ 4 ∧ b ≠ 7 ∧ b ≠ 8 ∧ b ≠ 16 ∧ b ≠ 24 ∧ b ≠ 17 ∧ b ≠ 18 ∧ b ≠ 19 ∧ b ≠ 21 ∧ b ≠ 9 ∧ b ≠ 20 ∧ b ≠ 23) := by omega
  rcases hcases with rfl | rfl | rfl | rfl | rfl | rfl | rfl | rfl | rfl | rfl | rfl | rfl | rfl | rfl | rfl | rfl | rfl | rfl | hne
  · -- 1
    repeat (first | refine sw_t ?_ | refine sw_f ?_ | refine sw_no rfl ?_ | refine sw_yes rfl ?_)
    refine rq_num (k := 4) d5 r5 (by simp [Rq.cells]) (by omega) hF5 fun w6 d6 r6 kk6 => ?_
    have k6 : Kp Emp w w6 := k5.then kk6 fun k hk q => by omega
    have rt6 := kk6.row rt5 (by omega)
    have sz6 := kk6.size
    refine rq_num (k := 5) d6 r6 (by simp [Rq.cells]) (by omega) hF5 fun w7 d7 r7 kk7 => ?_
    have k7 : Kp Emp w w7 := k6.then kk7 fun k hk q => by omega
    have rt7 := kk7.row rt6 (by omega)
    have sz7 := kk7.size
    refine rq_legs (k := 7) d7 r7 (by simp [Rq.cells]) (by omega) hF5 (fun b q => by have := hF b q; have := k7.size; omega) fun w8 lv d8 r8 hl8 kk8 => ?_
    have k8 : Kp Emp w w8 := k7.then kk8 fun k hk q => by omega
    have rt8 := kk8.row rt7 (by omega)
    have sz8 := kk8.size
    exact dec_end (q := (decB 1 s).1) (lv := lv) (G := Nb w7 w8) d8 r8 hl8 (fun b hb => ⟨⟨by have := hb.1; omega, hb.2⟩, by have := hb.1; omega⟩) rt8 (by omega) (by omega) k8 hK
  · -- 22
    repeat (first | refine sw_t ?_ | refine sw_f ?_ | refine sw_no rfl ?_ | refine sw_yes rfl ?_)
    refine rq_num (k := 4) d5 r5 (by simp [Rq.cells]) (by omega) hF5 fun w6 d6 r6 kk6 => ?_
    have k6 : Kp Emp w w6 := k5.then kk6 fun k hk q => by omega
    have rt6 := kk6.row rt5 (by omega)
    have sz6 := kk6.size
    refine rq_num (k := 5) d6 r6 (by simp [Rq.cells]) (by omega) hF5 fun w7 d7 r7 kk7 => ?_
    have k7 : Kp Emp w w7 := k6.then kk7 fun k hk q => by omega
    have rt7 := kk7.row rt6 (by omega)
    have sz7 := kk7.size
    refine rq_legs (k := 7) d7 r7 (by simp [Rq.cells]) (by omega) hF5 (fun b q => by have := hF b q; have := k7.size; omega) fun w8 lv d8 r8 hl8 kk8 => ?_
    have k8 : Kp Emp w w8 := k7.then kk8 fun k hk q => by omega
    have rt8 := kk8.row rt7 (by omega)
    have sz8 := kk8.size
    exact dec_end (q := (decB 22 s).1) (lv := lv) (G := Nb w7 w8) d8 r8 hl8 (fun b hb => ⟨⟨by have := hb.1; omega, hb.2⟩, by have := hb.1; omega⟩) rt8 (by omega) (by omega) k8 hK
  · -- 5
    repeat (first | refine sw_t ?_ | refine sw_f ?_ | refine sw_no rfl ?_ | refine sw_yes rfl ?_)
    refine rq_num (k := 1) d5 r5 (by simp [Rq.cells]) (by omega) hF5 fun w6 d6 r6 kk6 => ?_
    have k6 : Kp Emp w w6 := k5.then kk6 fun k hk q => by omega
    have rt6 := kk6.row rt5 (by omega)
    have sz6 := kk6.size
    refine rq_legs (k := 7) d6 r6 (by simp [Rq.cells]) (by omega) hF5 (fun b q => by have := hF b q; have := k6.size; omega) fun w7 lv d7 r7 hl7 kk7 => ?_
    have k7 : Kp Emp w w7 := k6.then kk7 fun k hk q => by omega
    have rt7 := kk7.row rt6 (by omega)
    have sz7 := kk7.size
    exact dec_end (q := (decB 5 s).1) (lv := lv) (G := Nb w6 w7) d7 r7 hl7 (fun b hb => ⟨⟨by have := hb.1; omega, hb.2⟩, by have := hb.1; omega⟩) rt7 (by omega) (by omega) k7 hK
  · -- 6
    repeat (first | refine sw_t ?_ | refine sw_f ?_ | refine sw_no rfl ?_ | refine sw_yes rfl ?_)
    refine rq_num (k := 2) d5 r5 (by simp [Rq.cells]) (by omega) hF5 fun w6 d6 r6 kk6 => ?_
    have k6 : Kp Emp w w6 := k5.then kk6 fun k hk q => by omega
    have rt6 := kk6.row rt5 (by omega)
    have sz6 := kk6.size
    refine rq_num (k := 4) d6 r6 (by simp [Rq.cells]) (by omega) hF5 fun w7 d7 r7 kk7 => ?_
    have k7 : Kp Emp w w7 := k6.then kk7 fun k hk q => by omega
    have rt7 := kk7.row rt6 (by omega)
    have sz7 := kk7.size
    refine rq_num (k := 5) d7 r7 (by simp [Rq.cells]) (by omega) hF5 fun w8 d8 r8 kk8 => ?_
    have k8 : Kp Emp w w8 := k7.then kk8 fun k hk q => by omega
    have rt8 := kk8.row rt7 (by omega)
    have sz8 := kk8.size
    exact dec_end (q := (decB 6 s).1) (lv := nilS) (G := Emp) d8 r8 Ar.nil (fun b hb => hb.elim) rt8 (by omega) (by omega) k8 hK
  · -- 2
    repeat (first | refine sw_t ?_ | refine sw_f ?_ | refine sw_no rfl ?_ | refine sw_yes rfl ?_)
    refine rq_num (k := 1) d5 r5 (by simp [Rq.cells]) (by omega) hF5 fun w6 d6 r6 kk6 => ?_
    have k6 : Kp Emp w w6 := k5.then kk6 fun k hk q => by omega
    have rt6 := kk6.row rt5 (by omega)
    have sz6 := kk6.size
    exact dec_end (q := (decB 2 s).1) (lv := nilS) (G := Emp) d6 r6 Ar.nil (fun b hb => hb.elim) rt6 (by omega) (by omega) k6 hK
  · -- 3
    repeat (first | refine sw_t ?_ | refine sw_f ?_ | refine sw_no rfl ?_ | refine sw_yes rfl ?_)
    refine rq_num (k := 1) d5 r5 (by simp [Rq.cells]) (by omega) hF5 fun w6 d6 r6 kk6 => ?_
    have k6 : Kp Emp w w6 := k5.then kk6 fun k hk q => by omega
    have rt6 := kk6.row rt5 (by omega)
    have sz6 := kk6.size
    exact dec_end (q := (decB 3 s).1) (lv := nilS) (G := Emp) d6 r6 Ar.nil (fun b hb => hb.elim) rt6 (by omega) (by omega) k6 hK
  · -- 4
    repeat (first | refine sw_t ?_ | refine sw_f ?_ | refine sw_no rfl ?_ | refine sw_yes rfl ?_)
    refine rq_num (k := 1) d5 r5 (by simp [Rq.cells]) (by omega) hF5 fun w6 d6 r6 kk6 => ?_
    have k6 : Kp Emp w w6 := k5.then kk6 fun k hk q => by omega
    have rt6 := kk6.row rt5 (by omega)
    have sz6 := kk6.size
    exact dec_end (q := (decB 4 s).1) (lv := nilS) (G := Emp) d6 r6 Ar.nil (fun b hb => hb.elim) rt6 (by omega) (by omega) k6 hK
  · -- 7
    repeat (first | refine sw_t ?_ | refine sw_f ?_ | refine sw_no rfl ?_ | refine sw_yes rfl ?_)
    refine rq_num (k := 1) d5 r5 (by simp [Rq.cells]) (by omega) hF5 fun w6 d6 r6 kk6 => ?_
    have k6 : Kp Emp w w6 := k5.then kk6 fun k hk q => by omega
    have rt6 := kk6.row rt5 (by omega)
    have sz6 := kk6.size
    exact dec_end (q := (decB 7 s).1) (lv := nilS) (G := Emp) d6 r6 Ar.nil (fun b hb => hb.elim) rt6 (by omega) (by omega) k6 hK
  · -- 8
    repeat (first | refine sw_t ?_ | refine sw_f ?_ | refine sw_no rfl ?_ | refine sw_yes rfl ?_)
    refine rq_num (k := 1) d5 r5 (by simp [Rq.cells]) (by omega) hF5 fun w6 d6 r6 kk6 => ?_
    have k6 : Kp Emp w w6 := k5.then kk6 fun k hk q => by omega
    have rt6 := kk6.row rt5 (by omega)
    have sz6 := kk6.size
    exact dec_end (q := (decB 8 s).1) (lv := nilS) (G := Emp) d6 r6 Ar.nil (fun b hb => hb.elim) rt6 (by omega) (by omega) k6 hK
  · -- 16
    repeat (first | refine sw_t ?_ | refine sw_f ?_ | refine sw_no rfl ?_ | refine sw_yes rfl ?_)
    refine rq_num (k := 1) d5 r5 (by simp [Rq.cells]) (by omega) hF5 fun w6 d6 r6 kk6 => ?_
    have k6 : Kp Emp w w6 := k5.then kk6 fun k hk q => by omega
    have rt6 := kk6.row rt5 (by omega)
    have sz6 := kk6.size
    exact dec_end (q := (decB 16 s).1) (lv := nilS) (G := Emp) d6 r6 Ar.nil (fun b hb => hb.elim) rt6 (by omega) (by omega) k6 hK
  · -- 24
    repeat (first | refine sw_t ?_ | refine sw_f ?_ | refine sw_no rfl ?_ | refine sw_yes rfl ?_)
    refine rq_num (k := 1) d5 r5 (by simp [Rq.cells]) (by omega) hF5 fun w6 d6 r6 kk6 => ?_
    have k6 : Kp Emp w w6 := k5.then kk6 fun k hk q => by omega
    have rt6 := kk6.row rt5 (by omega)
    have sz6 := kk6.size
    exact dec_end (q := (decB 24 s).1) (lv := nilS) (G := Emp) d6 r6 Ar.nil (fun b hb => hb.elim) rt6 (by omega) (by omega) k6 hK
  · -- 17
    repeat (first | refine sw_t ?_ | refine sw_f ?_ | refine sw_no rfl ?_ | refine sw_yes rfl ?_)
    refine rq_num (k := 1) d5 r5 (by simp [Rq.cells]) (by omega) hF5 fun w6 d6 r6 kk6 => ?_
    have k6 : Kp Emp w w6 := k5.then kk6 fun k hk q => by omega
    have rt6 := kk6.row rt5 (by omega)
    have sz6 := kk6.size
    refine rq_num (k := 6) d6 r6 (by simp [Rq.cells]) (by omega) hF5 fun w7 d7 r7 kk7 => ?_
    have k7 : Kp Emp w w7 := k6.then kk7 fun k hk q => by omega
    have rt7 := kk7.row rt6 (by omega)
    have sz7 := kk7.size
    exact dec_end (q := (decB 17 s).1) (lv := nilS) (G := Emp) d7 r7 Ar.nil (fun b hb => hb.elim) rt7 (by omega) (by omega) k7 hK
  · -- 18
    repeat (first | refine sw_t ?_ | refine sw_f ?_ | refine sw_no rfl ?_ | refine sw_yes rfl ?_)
    refine rq_num (k := 2) d5 r5 (by simp [Rq.cells]) (by omega) hF5 fun w6 d6 r6 kk6 => ?_
    have k6 : Kp Emp w w6 := k5.then kk6 fun k hk q => by omega
    have rt6 := kk6.row rt5 (by omega)
    have sz6 := kk6.size
    refine rq_num (k := 3) d6 r6 (by simp [Rq.cells]) (by omega) hF5 fun w7 d7 r7 kk7 => ?_
    have k7 : Kp Emp w w7 := k6.then kk7 fun k hk q => by omega
    have rt7 := kk7.row rt6 (by omega)
    have sz7 := kk7.size
    exact dec_end (q := (decB 18 s).1) (lv := nilS) (G := Emp) d7 r7 Ar.nil (fun b hb => hb.elim) rt7 (by omega) (by omega) k7 hK
  · -- 19
    repeat (first | refine sw_t ?_ | refine sw_f ?_ | refine sw_no rfl ?_ | refine sw_yes rfl ?_)
    refine rq_num (k := 2) d5 r5 (by simp [Rq.cells]) (by omega) hF5 fun w6 d6 r6 kk6 => ?_
    have k6 : Kp Emp w w6 := k5.then kk6 fun k hk q => by omega
    have rt6 := kk6.row rt5 (by omega)
    have sz6 := kk6.size
    exact dec_end (q := (decB 19 s).1) (lv := nilS) (G := Emp) d6 r6 Ar.nil (fun b hb => hb.elim) rt6 (by omega) (by omega) k6 hK
  · -- 21
    repeat (first | refine sw_t ?_ | refine sw_f ?_ | refine sw_no rfl ?_ | refine sw_yes rfl ?_)
    refine rq_num (k := 2) d5 r5 (by simp [Rq.cells]) (by omega) hF5 fun w6 d6 r6 kk6 => ?_
    have k6 : Kp Emp w w6 := k5.then kk6 fun k hk q => by omega
    have rt6 := kk6.row rt5 (by omega)
    have sz6 := kk6.size
    refine rq_num (k := 4) d6 r6 (by simp [Rq.cells]) (by omega) hF5 fun w7 d7 r7 kk7 => ?_
    have k7 : Kp Emp w w7 := k6.then kk7 fun k hk q => by omega
    have rt7 := kk7.row rt6 (by omega)
    have sz7 := kk7.size
    refine rq_num (k := 5) d7 r7 (by simp [Rq.cells]) (by omega) hF5 fun w8 d8 r8 kk8 => ?_
    have k8 : Kp Emp w w8 := k7.then kk8 fun k hk q => by omega
    have rt8 := kk8.row rt7 (by omega)
    have sz8 := kk8.size
    refine rq_num (k := 3) d8 r8 (by simp [Rq.cells]) (by omega) hF5 fun w9 d9 r9 kk9 => ?_
    have k9 : Kp Emp w w9 := k8.then kk9 fun k hk q => by omega
    have rt9 := kk9.row rt8 (by omega)
    have sz9 := kk9.size
    exact dec_end (q := (decB 21 s).1) (lv := nilS) (G := Emp) d9 r9 Ar.nil (fun b hb => hb.elim) rt9 (by omega) (by omega) k9 hK
  · -- 9
    repeat (first | refine sw_t ?_ | refine sw_f ?_ | refine sw_no rfl ?_ | refine sw_yes rfl ?_)
    exact dec_end (q := (decB 9 s).1) (lv := nilS) (G := Emp) d5 r5 Ar.nil (fun b hb => hb.elim) rt5 (by omega) (by omega) k5 hK
  · -- 20
    repeat (first | refine sw_t ?_ | refine sw_f ?_ | refine sw_no rfl ?_ | refine sw_yes rfl ?_)
    exact dec_end (q := (decB 20 s).1) (lv := nilS) (G := Emp) d5 r5 Ar.nil (fun b hb => hb.elim) rt5 (by omega) (by omega) k5 hK
  · -- 23
    repeat (first | refine sw_t ?_ | refine sw_f ?_ | refine sw_no rfl ?_ | refine sw_yes rfl ?_)
    exact dec_end (q := (decB 23 s).1) (lv := nilS) (G := Emp) d5 r5 Ar.nil (fun b hb => hb.elim) rt5 (by omega) (by omega) k5 hK
  · -- none of them
    have nb : ∀ c : Int, b ≠ c → (b == c) = false := fun c h => by rw [beq_eq_false_iff_ne]; exact h
    repeat (refine sw_no (nb _ (by omega)) ?_)
    refine rfail_ok d5 fun w6 d6 kk6 => ?_
    have k6 : Kp Emp w w6 := k5.then kk6 fun k hk q => by omega
    have eD : decB b s = (⟨b, 0, 0, 0, 0, 0, 0, []⟩, ([], true)) := by
      unfold decB
      rw [if_neg (by omega), if_neg (by omega), if_neg (by omega), if_neg (by simp only [dIds, List.mem_cons, List.not_mem_nil, or_false]; omega), if_neg (by omega), if_neg (by omega), if_neg (by omega), if_neg (by omega), if_neg (by omega)]
    rw [eD] at hK
    exact dec_end (lv := nilS) (G := Emp) d6 (kk6.row r5 (by omega)) Ar.nil (fun b hb => hb.elim) (kk6.row rt5 (by omega)) (by omega) (by omega) k6 hK
end
end Go.Proofs.Qxb6500896aGreatDoor
