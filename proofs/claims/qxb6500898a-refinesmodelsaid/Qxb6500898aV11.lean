import Derived.Test.Qxb6500898aV10
namespace Go.Proofs.Qxb6500898a
open Go.Sh Go.RowKit
set_option linter.unusedVariables false
set_option linter.unusedSimpArgs false

section
variable {w w' w1 w2 : World} {v d t : Value} {ob ob0 : Option Nat} {o : Nat} {xs ys zs r : List Int} {pre post : List Value} {K : Value → World → Prop} {B1 : List Value → World → Prop} {k : World → Prop} {i e p n m : Nat} {z c : Int} {S : Nat → Prop}
theorem le2_one {u : Int} (hu : 0 ≤ u ∧ u ≤ 65535) : dL2 u = [u % 256, u / 256] := by unfold dL2; rw [show u / 256 % 256 = u / 256 by omega]
/-- the loop of AppendUTF16LE, on any string -/
theorem app16g_loop (h : Bq (fun k => ob0 = some k) w v xs) (hl : xs.length ≤ 100000000000) (hys : ys.length ≤ 1000000000000) (hD0 : D xs = some r)
    (hsl : Sl u1 1 w1 5 ob t ys) (hob : ob = ob0 ∨ ∃ b, ob = some b ∧ w.heap.size ≤ b) (hk : Kp (fun k => ob0 = some k) w w1)
    (hK : ∀ w' t' ob', Sl u1 1 w' 5 ob' t' (ys ++ le2 (units r)) → (ob' = ob0 ∨ ∃ b, ob' = some b ∧ w.heap.size ≤ b) → Kp (fun k => ob0 = some k) w w' → K (.tuple #[t', .nilIface]) w') : s44_p3 K t v w1 := by
  have chain : ∀ {w2 w3 : World} {oa oc : Option Nat}, (oa = ob0 ∨ ∃ b, oa = some b ∧ w.heap.size ≤ b) → Kp (fun k => ob0 = some k) w w2 → Kp (fun b => oa = some b) w2 w3 → (oc = oa ∨ ∃ b, oc = some b ∧ w2.heap.size ≤ b) → (oc = ob0 ∨ ∃ b, oc = some b ∧ w.heap.size ≤ b) ∧ Kp (fun k => ob0 = some k) w w3 := by
    intro w2 w3 oa oc ha hk2 hk3 hc
    have sz := hk2.size
    refine ⟨?_, hk2.then hk3 (fun b hb q => ?_)⟩
    · rcases hc with e | ⟨b, e, hb⟩
      · rw [e]; exact ha
      · exact .inr ⟨b, e, by omega⟩
    · rcases ha with e | ⟨b', e, hb'⟩
      · rw [← e]; exact q
      · rw [e] at q; cases q; omega
  unfold s44_p3
  refine ⟨fun m l w' => ∃ v zs acc t ob, l = [t, v] ∧ m = zs.length ∧ Bq (fun k => ob0 = some k) w v zs ∧ Sl u1 1 w' 5 ob t (ys ++ le2 (units acc)) ∧ (ob = ob0 ∨ ∃ b, ob = some b ∧ w.heap.size ≤ b) ∧ Kp (fun k => ob0 = some k) w w' ∧ D xs = (D zs).map (acc ++ ·) ∧ acc.length + zs.length ≤ xs.length,
    xs.length, ⟨v, xs, [], t, ob, rfl, rfl, h, by simpa [units, le2] using hsl, hob, hk, by simp, by simp⟩, ?_⟩
  rintro m l w2 ⟨v, zs, acc, t, ob, rfl, rfl, hv, hsl, hob, hk2, hD, hlen⟩
  rw [s44_p3_Fe]
  unfold s44_p2
  have hb2 := (hv.kp hk2).bs
  refine hb2.ln ?_
  try simp only [e_fd, e_nck, e_pkt, e_pkf, e_gdtt, e_gdtf, e_gdft, e_gdff, e_ift, e_iff, e_not, e_ln, e_lnT, e_cp, e_cvi, e_ex20, e_ex21, e_ex30, e_ex31, e_ex32, e_add, e_sub, e_mul, e_quo, e_rem, e_and, e_or, e_xor, e_shl, e_shr, e_eql, e_neq, e_lss, e_leq, e_gtr, e_geq, e_beq, e_bne, e_peq1, e_peq2, e_pne1, e_pne2, e_zeq1, e_zeq2, e_zne1, e_zne2, e_feq1, e_fne1, e_feq2, e_fne2, e_seq, e_sne, e_ta1, e_ta2, Nat.zero_add, Nat.add_zero, Bool.not_true, Bool.not_false]
  have hul := units_len acc
  have hll := le2_len (units acc)
  by_cases hz : 0 < zs.length
  · have hz' : (0 : Int) < (zs.length : Int) := by omega
    simp only [hz', decide_true, e_fd, e_nck, e_pkt, e_pkf, e_gdtt, e_gdtf, e_gdft, e_gdff, e_ift, e_iff, e_not, e_ln, e_lnT, e_cp, e_cvi, e_ex20, e_ex21, e_ex30, e_ex31, e_ex32, e_add, e_sub, e_mul, e_quo, e_rem, e_and, e_or, e_xor, e_shl, e_shr, e_eql, e_neq, e_lss, e_leq, e_gtr, e_geq, e_beq, e_bne, e_peq1, e_peq2, e_pne1, e_pne2, e_zeq1, e_zeq2, e_zne1, e_zne2, e_feq1, e_fne1, e_feq2, e_fne2, e_seq, e_sne, e_ta1, e_ta2, Nat.zero_add, Nat.add_zero, Bool.not_true, Bool.not_false]
    refine scalar_ok hb2 fun w3 hk3 => ?_
    have hk3' : Kp (fun k => ob0 = some k) w w3 := hk2.then hk3 (fun _ _ q => q.elim)
    cases hd : dec zs with
    | none =>
      rw [hD, D_none hz hd] at hD0
      cases hD0
    | some p =>
      obtain ⟨u, k⟩ := p
      have hdl := dec_len hd
      have hub := dec_by hv.by_ hd
      simp only [decV, e_fd, e_nck, e_pkt, e_pkf, e_gdtt, e_gdtf, e_gdft, e_gdff, e_ift, e_iff, e_not, e_ln, e_lnT, e_cp, e_cvi, e_ex20, e_ex21, e_ex30, e_ex31, e_ex32, e_add, e_sub, e_mul, e_quo, e_rem, e_and, e_or, e_xor, e_shl, e_shr, e_eql, e_neq, e_lss, e_leq, e_gtr, e_geq, e_beq, e_bne, e_peq1, e_peq2, e_pne1, e_pne2, e_zeq1, e_zeq2, e_zne1, e_zne2, e_feq1, e_fne1, e_feq2, e_fne2, e_seq, e_sne, e_ta1, e_ta2, Nat.zero_add, Nat.add_zero, Bool.not_true, Bool.not_false]
      have hD' : D xs = (D (zs.drop k)).map ((acc ++ [u]) ++ ·) := by
        rw [hD, D_some hd]
        cases D (zs.drop k) with
        | none => rfl
        | some r => simp
      have fin : ∀ w' t' ob', Sl u1 1 w' 5 ob' t' (ys ++ le2 (units (acc ++ [u]))) → (ob' = ob0 ∨ ∃ b, ob' = some b ∧ w.heap.size ≤ b) → Kp (fun k => ob0 = some k) w w' → sls 1 v (some (I k)) none (fun t68 w' => (fun l w' => ∃ m', m' < zs.length ∧ ∃ v zs acc t ob, l = [t, v] ∧ m' = zs.length ∧ Bq (fun k => ob0 = some k) w v zs ∧ Sl u1 1 w' 5 ob t (ys ++ le2 (units acc)) ∧ (ob = ob0 ∨ ∃ b, ob = some b ∧ w.heap.size ≤ b) ∧ Kp (fun k => ob0 = some k) w w' ∧ D xs = (D zs).map (acc ++ ·) ∧ acc.length + zs.length ≤ xs.length) [t', t68] w') w' := by
        intro w' t' ob' hs ho hk'
        refine hv.drop k rfl hdl.2.2 hz fun v' hv' => ?_
        refine ⟨(zs.drop k).length, by rw [List.length_drop]; omega, v', zs.drop k, acc ++ [u], t', ob', rfl, rfl, hv', hs, ho, hk', hD', ?_⟩
        rw [List.length_append, List.length_drop, List.length_singleton]; omega
      rw [units_app] at fin
      by_cases hu : (65536 : Int) ≤ u
      · simp only [hu, decide_true, e_fd, e_nck, e_pkt, e_pkf, e_gdtt, e_gdtf, e_gdft, e_gdff, e_ift, e_iff, e_not, e_ln, e_lnT, e_cp, e_cvi, e_ex20, e_ex21, e_ex30, e_ex31, e_ex32, e_add, e_sub, e_mul, e_quo, e_rem, e_and, e_or, e_xor, e_shl, e_shr, e_eql, e_neq, e_lss, e_leq, e_gtr, e_geq, e_beq, e_bne, e_peq1, e_peq2, e_pne1, e_pne2, e_zeq1, e_zeq2, e_zne1, e_zne2, e_feq1, e_fne1, e_feq2, e_fne2, e_seq, e_sne, e_ta1, e_ta2, Nat.zero_add, Nat.add_zero, Bool.not_true, Bool.not_false]
        refine ⟨by decide, ?_⟩
        have es : sp16 u = [55296 + (u - 65536) / 1024, 56320 + (u - 65536) % 1024] := by unfold sp16; rw [if_neg (by omega)]
        rw [wrapu32 (u - 65536), show (u - 65536) % 4294967296 = u - 65536 by omega, sh10, Int.fdiv_eq_ediv_of_nonneg _ (by decide), and1023 (by omega) (by omega)]
        rw [wrapu32 (55296 + _), wrapu32 (56320 + _), wrapu16, wrapu16]
        rw [show (55296 + (u - 65536) / 1024) % 4294967296 % 65536 = 55296 + (u - 65536) / 1024 by omega, show (56320 + (u - 65536) % 1024) % 4294967296 % 65536 = 56320 + (u - 65536) % 1024 by omega]
        refine appLE16_ok (hsl.kp' hk3) (by rw [List.length_append]; omega) (by omega) fun w4 t4 ob4 s4 hk4 ho4 => ?_
        obtain ⟨hob4, hk4'⟩ := chain hob hk3' hk4 ho4
        refine appLE16_ok s4 (by rw [List.length_append, List.length_append]; show _ + 2 ≤ _; omega) (by omega) fun w5 t5 ob5 s5 hk5 ho5 => ?_
        obtain ⟨hob5, hk5'⟩ := chain hob4 hk4' hk5 ho5
        refine fin w5 t5 ob5 ?_ hob5 hk5'
        rw [le2_one (by omega), le2_one (by omega)] at s5
        rw [es, show units acc ++ [55296 + (u - 65536) / 1024, 56320 + (u - 65536) % 1024] = (units acc ++ [55296 + (u - 65536) / 1024]) ++ [56320 + (u - 65536) % 1024] by simp, le2_app, le2_app]
        simpa using s5
      · simp only [hu, decide_false, e_fd, e_nck, e_pkt, e_pkf, e_gdtt, e_gdtf, e_gdft, e_gdff, e_ift, e_iff, e_not, e_ln, e_lnT, e_cp, e_cvi, e_ex20, e_ex21, e_ex30, e_ex31, e_ex32, e_add, e_sub, e_mul, e_quo, e_rem, e_and, e_or, e_xor, e_shl, e_shr, e_eql, e_neq, e_lss, e_leq, e_gtr, e_geq, e_beq, e_bne, e_peq1, e_peq2, e_pne1, e_pne2, e_zeq1, e_zeq2, e_zne1, e_zne2, e_feq1, e_fne1, e_feq2, e_fne2, e_seq, e_sne, e_ta1, e_ta2, Nat.zero_add, Nat.add_zero, Bool.not_true, Bool.not_false]
        have es : sp16 u = [u] := by unfold sp16; rw [if_pos (by omega)]
        rw [wrapu16, show u % 65536 = u by omega]
        refine appLE16_ok (hsl.kp' hk3) (by rw [List.length_append]; omega) (by omega) fun w4 t4 ob4 s4 hk4 ho4 => ?_
        obtain ⟨hob4, hk4'⟩ := chain hob hk3' hk4 ho4
        refine fin w4 t4 ob4 ?_ hob4 hk4'
        rw [le2_one (by omega)] at s4
        rw [es, le2_app]
        simpa using s4
  · have hz' : ¬ (0 : Int) < (zs.length : Int) := by omega
    simp only [hz', decide_false, e_fd, e_nck, e_pkt, e_pkf, e_gdtt, e_gdtf, e_gdft, e_gdff, e_ift, e_iff, e_not, e_ln, e_lnT, e_cp, e_cvi, e_ex20, e_ex21, e_ex30, e_ex31, e_ex32, e_add, e_sub, e_mul, e_quo, e_rem, e_and, e_or, e_xor, e_shl, e_shr, e_eql, e_neq, e_lss, e_leq, e_gtr, e_geq, e_beq, e_bne, e_peq1, e_peq2, e_pne1, e_pne2, e_zeq1, e_zeq2, e_zne1, e_zne2, e_feq1, e_fne1, e_feq2, e_fne2, e_seq, e_sne, e_ta1, e_ta2, Nat.zero_add, Nat.add_zero, Bool.not_true, Bool.not_false]
    unfold s44_p1
    have ez : zs = [] := List.eq_nil_of_length_eq_zero (by omega)
    subst ez
    have : r = acc := by
      rw [hD, D_nil] at hD0
      simpa [eq_comm] using hD0
    subst this
    exact hK w2 t ob hsl hob hk2
/-- AppendUTF16LE; the spare room is untouched where it refuses -/
theorem app16_ok (hs : Sl u1 1 w 5 ob0 t ys) (hys : ys.length ≤ 1000000000000) (h : Bq (fun k => ob0 = some k) w v xs) (hl : xs.length ≤ 100000000000)
    (hK1 : ∀ w', Kp (fun _ => False) w w' → D xs = none → K (.tuple #[t, illV]) w')
    (hK2 : ∀ w' t' ob' r, D xs = some r → Sl u1 1 w' 5 ob' t' (ys ++ le2 (units r)) → (ob' = ob0 ∨ ∃ b, ob' = some b ∧ w.heap.size ≤ b) → Kp (fun k => ob0 = some k) w w' → K (.tuple #[t', .nilIface]) w') : cl Try.prog 44 #[t, v] K w := by
  apply c44
  unfold s44_p4
  refine len16_ok h.bs (by omega) (fun w1 hk1 hd => ?_) (fun w1 r hd hk1 hrl => ?_)
  · unfold illV
    try simp only [e_fd, e_nck, e_pkt, e_pkf, e_gdtt, e_gdtf, e_gdft, e_gdff, e_ift, e_iff, e_not, e_ln, e_lnT, e_cp, e_cvi, e_ex20, e_ex21, e_ex30, e_ex31, e_ex32, e_add, e_sub, e_mul, e_quo, e_rem, e_and, e_or, e_xor, e_shl, e_shr, e_eql, e_neq, e_lss, e_leq, e_gtr, e_geq, e_beq, e_bne, e_peq1, e_peq2, e_pne1, e_pne2, e_zeq1, e_zeq2, e_zne1, e_zne2, e_feq1, e_fne1, e_feq2, e_fne2, e_seq, e_sne, e_ta1, e_ta2, Nat.zero_add, Nat.add_zero, Bool.not_true, Bool.not_false]
    exact hK1 w1 hk1 hd
  · have hul := units_len r
    have s1 := hs.kp' hk1
    have hk1' : Kp (fun k => ob0 = some k) w w1 := hk1.mono fun _ _ q => q.elim
    obtain ⟨a, cap, ht, hcap⟩ : ∃ a cap, t = .slice a ys.length cap ∧ ys.length ≤ cap := by
      cases ob0 with
      | none => obtain ⟨e1, e2⟩ := hs; exact ⟨none, 0, by rw [e1, e2]; rfl, by rw [e2]; exact Nat.le_refl _⟩
      | some b => obtain ⟨c, junk, e1, e2, _, _⟩ := hs; exact ⟨_, c, e1, e2⟩
    have go : ∀ {w2 t2 ob2}, Sl u1 1 w2 5 ob2 t2 ys → (ob2 = ob0 ∨ ∃ b, ob2 = some b ∧ w.heap.size ≤ b) → Kp (fun k => ob0 = some k) w w2 → s44_p3 K t2 v w2 := fun s2 ho2 hk2 =>
      app16g_loop h (by omega) hys hd s2 ho2 hk2 fun w' t' ob' s' ho' hk' => hK2 w' t' ob' r hd s' ho' hk'
    try simp only [e_fd, e_nck, e_pkt, e_pkf, e_gdtt, e_gdtf, e_gdft, e_gdff, e_ift, e_iff, e_not, e_ln, e_lnT, e_cp, e_cvi, e_ex20, e_ex21, e_ex30, e_ex31, e_ex32, e_add, e_sub, e_mul, e_quo, e_rem, e_and, e_or, e_xor, e_shl, e_shr, e_eql, e_neq, e_lss, e_leq, e_gtr, e_geq, e_beq, e_bne, e_peq1, e_peq2, e_pne1, e_pne2, e_zeq1, e_zeq2, e_zne1, e_zne2, e_feq1, e_fne1, e_feq2, e_fne2, e_seq, e_sne, e_ta1, e_ta2, Nat.zero_add, Nat.add_zero, Bool.not_true, Bool.not_false]
    have hcs : ∀ {K' : Value → World → Prop}, K' (I (cap : Nat)) w1 → cpS t K' w1 := fun q => by rw [ht]; exact q
    refine hcs ?_
    refine s1.ln ?_
    try simp only [e_fd, e_nck, e_pkt, e_pkf, e_gdtt, e_gdtf, e_gdft, e_gdff, e_ift, e_iff, e_not, e_ln, e_lnT, e_cp, e_cvi, e_ex20, e_ex21, e_ex30, e_ex31, e_ex32, e_add, e_sub, e_mul, e_quo, e_rem, e_and, e_or, e_xor, e_shl, e_shr, e_eql, e_neq, e_lss, e_leq, e_gtr, e_geq, e_beq, e_bne, e_peq1, e_peq2, e_pne1, e_pne2, e_zeq1, e_zeq2, e_zne1, e_zne2, e_feq1, e_fne1, e_feq2, e_fne2, e_seq, e_sne, e_ta1, e_ta2, Nat.zero_add, Nat.add_zero, Bool.not_true, Bool.not_false]
    generalize IntKind.i64.wrap (((cap : Nat) : Int) - ((ys.length : Nat) : Int)) = dlt
    by_cases hroom : dlt < ((2 * (units r).length : Nat) : Int)
    · simp only [hroom, decide_true, e_fd, e_nck, e_pkt, e_pkf, e_gdtt, e_gdtf, e_gdft, e_gdff, e_ift, e_iff, e_not, e_ln, e_lnT, e_cp, e_cvi, e_ex20, e_ex21, e_ex30, e_ex31, e_ex32, e_add, e_sub, e_mul, e_quo, e_rem, e_and, e_or, e_xor, e_shl, e_shr, e_eql, e_neq, e_lss, e_leq, e_gtr, e_geq, e_beq, e_bne, e_peq1, e_peq2, e_pne1, e_pne2, e_zeq1, e_zeq2, e_zne1, e_zne2, e_feq1, e_fne1, e_feq2, e_fne2, e_seq, e_sne, e_ta1, e_ta2, Nat.zero_add, Nat.add_zero, Bool.not_true, Bool.not_false]
      refine s1.ln ?_
      refine s1.ln ?_
      try simp only [e_fd, e_nck, e_pkt, e_pkf, e_gdtt, e_gdtf, e_gdft, e_gdff, e_ift, e_iff, e_not, e_ln, e_lnT, e_cp, e_cvi, e_ex20, e_ex21, e_ex30, e_ex31, e_ex32, e_add, e_sub, e_mul, e_quo, e_rem, e_and, e_or, e_xor, e_shl, e_shr, e_eql, e_neq, e_lss, e_leq, e_gtr, e_geq, e_beq, e_bne, e_peq1, e_peq2, e_pne1, e_pne2, e_zeq1, e_zeq2, e_zne1, e_zne2, e_feq1, e_fne1, e_feq2, e_fne2, e_seq, e_sne, e_ta1, e_ta2, Nat.zero_add, Nat.add_zero, Bool.not_true, Bool.not_false]
      rw [wrap64_id (by omega) (by omega)]
      refine ⟨⟨by omega, by omega, by omega, by omega⟩, ?_⟩
      have e1 : (((ys.length : Nat) : Int)).toNat = ys.length := by omega
      have e2 : (((ys.length : Nat) : Int) + ((2 * (units r).length : Nat) : Int)).toNat = ys.length + 2 * (units r).length := by omega
      rw [e1, e2]
      have k2 : Kp (fun _ => False) w1 (w1.alloc (.cells (zrep [U8 0] ((ys.length + 2 * (units r).length) * [U8 0].length)).toArray 5)) := kp_alloc _
      have r2 := Row.new w1 5 (zrep [U8 0] ((ys.length + 2 * (units r).length) * [U8 0].length))
      generalize w1.alloc (.cells (zrep [U8 0] ((ys.length + 2 * (units r).length) * [U8 0].length)).toArray 5) = w2 at k2 r2 ⊢
      have hzl : (zrep [U8 0] ((ys.length + 2 * (units r).length) * [U8 0].length)).length = ys.length + 2 * (units r).length := by simp [zrep]
      have vs2 : Vs U8 w2 t ys := by
        have s2 := s1.kp' k2
        cases ob0 with
        | none => exact .inl s2
        | some b =>
          obtain ⟨c', junk, e1, e2, e3, e4⟩ := s2
          rw [rows_u1] at e4
          rw [e1]
          exact vs_row e4 e2 (by omega)
      refine cp_r (f := U8) r2 vs2 rfl (by rw [hzl]; omega) (fun _ => rfl) fun w3 r3 hk3 hz3 => ?_
      refine go (ob2 := some w1.heap.size) ⟨ys.length + 2 * (units r).length, (zrep [U8 0] ((ys.length + 2 * (units r).length) * [U8 0].length)).drop (0 + ys.length), rfl, by omega, ?_, ?_⟩ (.inr ⟨_, rfl, hk1.size⟩) (hk1'.then (k2.then hk3 (fun b hb (q : b = _) => by omega)) (fun _ _ q => q.elim))
      · rw [List.length_drop, hzl]; omega
      · rw [rows_u1]; simpa using r3
    · simp only [hroom, decide_false, e_fd, e_nck, e_pkt, e_pkf, e_gdtt, e_gdtf, e_gdft, e_gdff, e_ift, e_iff, e_not, e_ln, e_lnT, e_cp, e_cvi, e_ex20, e_ex21, e_ex30, e_ex31, e_ex32, e_add, e_sub, e_mul, e_quo, e_rem, e_and, e_or, e_xor, e_shl, e_shr, e_eql, e_neq, e_lss, e_leq, e_gtr, e_geq, e_beq, e_bne, e_peq1, e_peq2, e_pne1, e_pne2, e_zeq1, e_zeq2, e_zne1, e_zne2, e_feq1, e_fne1, e_feq2, e_fne2, e_seq, e_sne, e_ta1, e_ta2, Nat.zero_add, Nat.add_zero, Bool.not_true, Bool.not_false]
      exact go s1 (.inl rfl) hk1'
end
end Go.Proofs.Qxb6500898a
