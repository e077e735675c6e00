import Derived.Test.Qxb6500894aDoorF3
import Derived.Test.Qxb6500894aDoorShEq3
namespace Go.Proofs.Qxb6500894aDoor
open Go.Sh Go.RowKit
set_option linter.unusedVariables false
set_option linter.unusedSimpArgs false

/-- the octets of a place -/
def encLoc (a b c d : Int) : List Int := uv (zz a) ++ (uv (zz b) ++ (uv (zz c) ++ uv (zz d)))
theorem uv_len {x : Nat} : (uv x).length ≤ 10 := uvF_len
section
variable {W w w' w2 : World} {v t0 rv : Value} {ob : Option Nat} {xs ys rest : List Int} {K : Value → World → Prop} {B1 : List Value → World → Prop} {f i n db eb : Nat} {kk : World → Prop} {a b c d k : Int}
theorem app_join {w1 w3 : World} {ob1 ob3 : Option Nat} (hk1 : Kp (fun b => ob = some b) w w1) (ho1 : ob1 = ob ∨ ∃ b, ob1 = some b ∧ w.heap.size ≤ b) (hk3 : Kp (fun b => ob1 = some b) w1 w3) (ho3 : ob3 = ob1 ∨ ∃ b, ob3 = some b ∧ w1.heap.size ≤ b) : Kp (fun b => ob = some b) w w3 ∧ (ob3 = ob ∨ ∃ b, ob3 = some b ∧ w.heap.size ≤ b) := by
  have sz := hk1.size
  constructor
  · refine hk1.then hk3 fun b hb q => ?_
    rcases ho1 with e | ⟨c, e, hc⟩
    · rw [← e]; exact q
    · rw [e] at q; cases q; omega
  · rcases ho3 with e | ⟨c, e, hc⟩
    · rw [e]; exact ho1
    · exact .inr ⟨c, e, by omega⟩
theorem appendLoc_ok (ra : i64r a) (rb : i64r b) (rc : i64r c) (rd : i64r d) (h : Sl u1 1 w 5 ob v ys) (hl : ys.length ≤ 1000000) (hK : AppK w ob (ys ++ encLoc a b c d) K) : cl Tryd.prog 49 #[v, .agg #[I a, I b, I c, I d]] K w := by
  have la : (uv (zz a)).length ≤ 10 := uv_len
  have lb : (uv (zz b)).length ≤ 10 := uv_len
  have lc : (uv (zz c)).length ≤ 10 := uv_len
  apply c49
  unfold s49_p1
  refine nw_r fun w0 r0 hk0 hz0 => ?_
  replace r0 : Row w0 w.heap.size 30 [I a, I b, I c, I d] := r0
  have h0 := h.kp' hk0
  have k0 : Kp (fun b => ob = some b) w w0 := hk0.mono fun _ _ q => q.elim
  try simp only [e_fd, e_nck, e_pkt, e_pkf, e_gdtt, e_gdtf, e_gdft, e_gdff, e_ift, e_iff, e_not, e_ln, e_lnT, e_cp, e_cvi, e_ex20, e_ex21, e_ex30, e_ex31, e_ex32, e_add, e_sub, e_mul, e_quo, e_rem, e_and, e_or, e_xor, e_shl, e_shr, e_eql, e_neq, e_lss, e_leq, e_gtr, e_geq, e_beq, e_bne, e_peq1, e_peq2, e_pne1, e_pne2, e_zeq1, e_zeq2, e_zne1, e_zne2, e_feq1, e_fne1, e_feq2, e_fne2, e_seq, e_sne, e_ta1, e_ta2, Nat.zero_add, Nat.add_zero, Bool.not_true, Bool.not_false]
  refine ld1_r r0 rfl ?_
  refine appV_ok ra.1 ra.2 h0 (by omega) fun w1 t1 ob1 s1 hk1 ho1 => ?_
  have r1 := hk1.row r0 (h0.ne r0 (by decide))
  obtain ⟨k1, o1⟩ := app_join (ob1 := ob) k0 (.inl rfl) hk1 ho1
  try simp only [e_fd, e_nck, e_pkt, e_pkf, e_gdtt, e_gdtf, e_gdft, e_gdff, e_ift, e_iff, e_not, e_ln, e_lnT, e_cp, e_cvi, e_ex20, e_ex21, e_ex30, e_ex31, e_ex32, e_add, e_sub, e_mul, e_quo, e_rem, e_and, e_or, e_xor, e_shl, e_shr, e_eql, e_neq, e_lss, e_leq, e_gtr, e_geq, e_beq, e_bne, e_peq1, e_peq2, e_pne1, e_pne2, e_zeq1, e_zeq2, e_zne1, e_zne2, e_feq1, e_fne1, e_feq2, e_fne2, e_seq, e_sne, e_ta1, e_ta2, Nat.zero_add, Nat.add_zero, Bool.not_true, Bool.not_false]
  refine ld1_r r1 rfl ?_
  refine appV_ok rb.1 rb.2 s1 (by rw [List.length_append]; omega) fun w2 t2 ob2 s2 hk2 ho2 => ?_
  have r2 := hk2.row r1 (s1.ne r1 (by decide))
  obtain ⟨k2, o2⟩ := app_join k1 o1 hk2 ho2
  try simp only [e_fd, e_nck, e_pkt, e_pkf, e_gdtt, e_gdtf, e_gdft, e_gdff, e_ift, e_iff, e_not, e_ln, e_lnT, e_cp, e_cvi, e_ex20, e_ex21, e_ex30, e_ex31, e_ex32, e_add, e_sub, e_mul, e_quo, e_rem, e_and, e_or, e_xor, e_shl, e_shr, e_eql, e_neq, e_lss, e_leq, e_gtr, e_geq, e_beq, e_bne, e_peq1, e_peq2, e_pne1, e_pne2, e_zeq1, e_zeq2, e_zne1, e_zne2, e_feq1, e_fne1, e_feq2, e_fne2, e_seq, e_sne, e_ta1, e_ta2, Nat.zero_add, Nat.add_zero, Bool.not_true, Bool.not_false]
  refine ld1_r r2 rfl ?_
  refine appV_ok rc.1 rc.2 s2 (by rw [List.length_append, List.length_append]; omega) fun w3 t3 ob3 s3 hk3 ho3 => ?_
  have r3 := hk3.row r2 (s2.ne r2 (by decide))
  obtain ⟨k3, o3⟩ := app_join k2 o2 hk3 ho3
  try simp only [e_fd, e_nck, e_pkt, e_pkf, e_gdtt, e_gdtf, e_gdft, e_gdff, e_ift, e_iff, e_not, e_ln, e_lnT, e_cp, e_cvi, e_ex20, e_ex21, e_ex30, e_ex31, e_ex32, e_add, e_sub, e_mul, e_quo, e_rem, e_and, e_or, e_xor, e_shl, e_shr, e_eql, e_neq, e_lss, e_leq, e_gtr, e_geq, e_beq, e_bne, e_peq1, e_peq2, e_pne1, e_pne2, e_zeq1, e_zeq2, e_zne1, e_zne2, e_feq1, e_fne1, e_feq2, e_fne2, e_seq, e_sne, e_ta1, e_ta2, Nat.zero_add, Nat.add_zero, Bool.not_true, Bool.not_false]
  refine ld1_r r3 rfl ?_
  refine appV_ok rd.1 rd.2 s3 (by rw [List.length_append, List.length_append, List.length_append]; omega) fun w4 t4 ob4 s4 hk4 ho4 => ?_
  obtain ⟨k4, o4⟩ := app_join k3 o3 hk4 ho4
  have e : ys ++ uv (zz a) ++ uv (zz b) ++ uv (zz c) ++ uv (zz d) = ys ++ encLoc a b c d := by unfold encLoc; simp only [List.append_assoc]
  rw [e] at s4
  exact hK w4 t4 ob4 s4 k4 o4
/-- the octets of a rejection -/
theorem appendRej_ok (ra : i64r a) (rb : i64r b) (rc : i64r c) (rd : i64r d) (hK : ∀ w' t' eb, Sl u1 1 w' 5 (some eb) t' (k :: encLoc a b c d) → w.heap.size ≤ eb → Kp (fun _ => False) w w' → K t' w') : cl Tryd.prog 25 #[.slice none 0 0, .agg #[I a, I b, I c, I d, U8 k]] K w := by
  apply c25
  unfold s25_p3
  refine nw_r fun w0 r0 hk0 hz0 => ?_
  replace r0 : Row w0 w.heap.size 70 [I a, I b, I c, I d, U8 k] := r0
  unfold s25_p2 s25_p2_d
  have kd : Kp (fun _ => False) w0 (drw w0) := kp_drw
  generalize drw w0 = w1 at kd ⊢
  have r1 := kd.row' r0
  have k1 := hk0.trans kd
  try simp only [e_fd, e_nck, e_pkt, e_pkf, e_gdtt, e_gdtf, e_gdft, e_gdff, e_ift, e_iff, e_not, e_ln, e_lnT, e_cp, e_cvi, e_ex20, e_ex21, e_ex30, e_ex31, e_ex32, e_add, e_sub, e_mul, e_quo, e_rem, e_and, e_or, e_xor, e_shl, e_shr, e_eql, e_neq, e_lss, e_leq, e_gtr, e_geq, e_beq, e_bne, e_peq1, e_peq2, e_pne1, e_pne2, e_zeq1, e_zeq2, e_zne1, e_zne2, e_feq1, e_fne1, e_feq2, e_fne2, e_seq, e_sne, e_ta1, e_ta2, Nat.zero_add, Nat.add_zero, Bool.not_true, Bool.not_false]
  refine ld1_r r1 rfl ?_
  refine ldn_r r1 (show 0 + 4 ≤ 5 by decide) ?_
  refine bsq_r (l := [U8 k]) rfl fun w2 r2 hk2 hz2 => ⟨hk2.below', ?_⟩
  have s2 : Sl u1 1 w2 5 (some w1.heap.size) (.slice (some ⟨w1.heap.size, 0, none⟩) 1 1) [k] := ⟨1, [], rfl, Nat.le_refl _, rfl, r2⟩
  refine Sl.app2 (ob := none) (xs := []) u1_len rfl (fun _ _ => rfl) ⟨rfl, rfl⟩ s2 (by simp) (by simp) fun w3 t3 ob3 s3 hk3 ho3 => ?_
  have hk3' : Kp (fun _ => False) w2 w3 := hk3.mono fun _ _ q => by cases q
  refine ⟨(hk2.trans hk3').below', ?_⟩
  have k3 := (k1.trans hk2).trans hk3'
  rw [List.nil_append] at s3
  have ho : ∃ e3, ob3 = some e3 ∧ w.heap.size ≤ e3 := by
    rcases ho3 with q | ⟨e3, q, he⟩
    · rw [q] at s3
      exact absurd s3.2 (by simp)
    · have := k1.size
      exact ⟨e3, q, by omega⟩
  obtain ⟨e3, rfl, he3⟩ := ho
  refine appendLoc_ok ra rb rc rd s3 (by simp) fun w4 t4 ob4 s4 hk4 ho4 => ?_
  unfold s25_p1
  have sz := k3.size
  have k4 : Kp (fun _ => False) w w4 := k3.then hk4 (fun b hb (q : some _ = some b) => by cases q; omega)
  rcases ho4 with rfl | ⟨e4, rfl, he4⟩
  · exact hK w4 t4 e3 s4 he3 k4
  · exact hK w4 t4 e4 s4 (by omega) k4
theorem loc_ok (ra : i64r a) (rb : i64r b) (rc : i64r c) (rd : i64r d) (h : Dc w db eb rv (encLoc a b c d ++ rest)) (hrl : rest.length ≤ 1000000) (hK : ∀ w' rv', Dc w' db eb rv' rest → Kp (fun k => k = db) w w' → K (.agg #[I a, I b, I c, I d]) w') : cl Tryd.prog 55 #[.pointer (some ⟨db, 0, none⟩)] K w := by
  have lb : (uv (zz b)).length ≤ 10 := uv_len
  have lc : (uv (zz c)).length ≤ 10 := uv_len
  have ld : (uv (zz d)).length ≤ 10 := uv_len
  apply c55
  unfold s55_p1
  refine nw_r fun w0 r0 hk0 hz0 => ?_
  have h0 := h.kp' hk0
  have lt := h.row.lt
  have e : encLoc a b c d ++ rest = uv (zz a) ++ (uv (zz b) ++ (uv (zz c) ++ (uv (zz d) ++ rest))) := by unfold encLoc; simp only [List.append_assoc]
  rw [e] at h0
  have nr : ¬ w.heap.size = db := by omega
  refine varint_ok ra.1 ra.2 h0 (by simp only [List.length_append]; omega) fun w1 rv1 h1 hk1 => ?_
  refine varint_ok rb.1 rb.2 h1 (by simp only [List.length_append]; omega) fun w2 rv2 h2 hk2 => ?_
  refine varint_ok rc.1 rc.2 h2 (by simp only [List.length_append]; omega) fun w3 rv3 h3 hk3 => ?_
  refine varint_ok rd.1 rd.2 h3 (by omega) fun w4 rv4 h4 hk4 => ?_
  have k4 := ((hk1.trans hk2).trans hk3).trans hk4
  have r4 := k4.row r0 nr
  refine bdq_r (l := [I a, I b, I c, I d]) rfl ?_
  refine stn_r (cs := [I a, I b, I c, I d]) r4 rfl (show 0 + 4 ≤ 4 by decide) rfl fun w5 r5 hk5 hz5 => ?_
  refine ldn_r r5 (show 0 + 4 ≤ _ by simp) ?_
  refine hK w5 rv4 ⟨hk5.row h4.row (fun (q : db = _) => nr q.symm), h4.vs.kp hk5 (fun b' o' c' _ ev (q : b' = _) => ?_), h4.blk, h4.ne⟩ ?_
  · have q1 := h4.blk _ _ _ ev
    have q1' : b' = eb := q1
    have lt2 : eb < w.heap.size := by
      rcases Nat.lt_or_ge eb w.heap.size with q2 | q2
      · exact q2
      · exfalso
        rcases h.vs with ⟨ev0, q3⟩ | ⟨aa, cap, ev0, q3⟩ | ⟨b0, o0, cap, ev0, _, _, hc⟩
        · unfold encLoc uv at q3
          have := congrArg List.length q3
          have hp := uvF_pos (f := 9) (x := zz a)
          simp only [List.length_append, List.length_nil] at this
          omega
        · unfold encLoc uv at q3
          have := congrArg List.length q3
          have hp := uvF_pos (f := 9) (x := zz a)
          simp only [List.length_append, List.length_nil] at this
          omega
        · have hb0 : b0 = eb := h.blk _ _ _ ev0
          have hp := uvF_pos (f := 9) (x := zz a)
          have hlen : 0 < (encLoc a b c d ++ rest).length := by unfold encLoc uv; simp only [List.length_append]; omega
          have := hc 0 (by rw [List.length_map]; exact hlen)
          rw [List.getElem?_eq_getElem (by rw [List.length_map]; exact hlen)] at this
          simp [World.cell?, Array.getElem?_eq_none (show w.heap.size ≤ b0 by omega)] at this
    omega
  · exact ((hk0.mono fun _ _ q => q.elim).trans k4).then hk5 (fun b' hb' (q : b' = _) => by omega)
end
end Go.Proofs.Qxb6500894aDoor
