import Derived.Test.Qxb6500895aD5
namespace Go.Proofs.Qxb6500895a
open Go.Sh Go.RowKit
set_option linter.unusedVariables false
set_option linter.unusedSimpArgs false

theorem rows_i1 (xs : List Int) : rows i1 xs = xs.map I := by
  induction xs with
  | nil => rfl
  | cons x xs ih => rw [rows_cons, ih]; rfl
theorem sl_vs {w : World} {ob : Option Nat} {v : Value} {xs : List Int} (h : Sl i1 1 w 3 ob v xs) (hl : xs.length ≤ 65536) : Vs I w v xs := by
  cases ob with
  | none => exact .inl h
  | some b =>
    obtain ⟨cap, junk, rfl, h2, h3, h4⟩ := h
    rw [rows_i1] at h4
    exact vs_row h4 h2 (by omega)
theorem sl_blk {α : Type} {f : α → List Value} {k : Nat} {w : World} {e : TypeId} {ob : Option Nat} {v : Value} {xs : List α} (h : Sl f k w e ob v xs) {b o n c : Nat} (hv : v = .slice (some ⟨b, o, none⟩) n c) : ob = some b := by
  cases ob with
  | none => obtain ⟨rfl, _⟩ := h; cases hv
  | some b' => obtain ⟨cap, junk, rfl, _⟩ := h; cases hv; rfl

theorem copyPlan_ok {w : World} {kv : Value} {keep : List Int} {torn a : Int} {K : Value → World → Prop} (hkv : Vs I w kv keep) (hl : keep.length ≤ 65536)
    (hK : ∀ w' kv' ob, Kp (fun _ => False) w w' → Sl i1 1 w' 3 ob kv' keep → (∀ b, ob = some b → w.heap.size ≤ b) → K (.agg #[kv', I torn, I a]) w') : cl Try.prog 51 #[.agg #[kv, I torn, I a]] K w := by
  apply c51
  unfold s51_p2
  refine nw_r fun w1 r1 hk1 hz1 => ?_
  refine nw_r fun w2 r2 hk2 hz2 => ?_
  have r1' := hk2.row' r1
  simp only [e_fd, e_nck, e_pkt, e_pkf, e_gdtt, e_gdtf, e_gdft, e_gdff, e_ift, e_iff, e_not, e_ln, e_lnT, e_cp, e_cvi, e_ex20, e_ex21, e_ex30, e_ex31, e_ex32, e_add, e_sub, e_mul, e_quo, e_rem, e_and, e_or, e_xor, e_shl, e_shr, e_eql, e_neq, e_lss, e_leq, e_gtr, e_geq, e_beq, e_bne, e_peq1, e_peq2, e_pne1, e_pne2, e_zeq1, e_zeq2, e_zne1, e_zne2, e_feq1, e_fne1, e_feq2, e_fne2, e_seq, e_sne, e_ta1, e_ta2, Nat.zero_add, Nat.add_zero, Bool.not_true, Bool.not_false]
  refine ld1_r r1' rfl ?_
  refine ld1_r r1' rfl ?_
  refine bdq_r rfl ?_
  refine nw_r fun w3 r3 hk3 hz3 => ?_
  refine stn_r r3 rfl (show 0 + 3 ≤ 3 by decide) rfl fun w4 r4 hk4 hz4 => ?_
  have r4' : Row w4 w2.heap.size 32 [.slice none 0 0, I torn, I a] := r4
  have hk04 : Kp (fun _ => False) w w4 := ((hk1.trans hk2).trans hk3).then hk4 (fun k hk (q : k = _) => by omega)
  have r14 : Row w4 w.heap.size 32 [kv, I torn, I a] := hk4.row (hk3.row' r1') (fun (e : _ = _) => by omega)
  have r24 := hk4.row (hk3.row' r2) (fun (e : _ = _) => by omega)
  refine ld1_r r14 rfl ?_
  have hkv4 := hkv.kp' hk04
  refine hkv4.ln ?_
  simp only [e_fd, e_nck, e_pkt, e_pkf, e_gdtt, e_gdtf, e_gdft, e_gdff, e_ift, e_iff, e_not, e_ln, e_lnT, e_cp, e_cvi, e_ex20, e_ex21, e_ex30, e_ex31, e_ex32, e_add, e_sub, e_mul, e_quo, e_rem, e_and, e_or, e_xor, e_shl, e_shr, e_eql, e_neq, e_lss, e_leq, e_gtr, e_geq, e_beq, e_bne, e_peq1, e_peq2, e_pne1, e_pne2, e_zeq1, e_zeq2, e_zne1, e_zne2, e_feq1, e_fne1, e_feq2, e_fne2, e_seq, e_sne, e_ta1, e_ta2, Nat.zero_add, Nat.add_zero, Bool.not_true, Bool.not_false]
  have fin : ∀ w5 kv' ob, Kp (fun _ => False) w w5 → Row w5 w1.heap.size 32 [.slice none 0 0, I 0, I 0] → Row w5 w2.heap.size 32 [kv', I torn, I a] → scal kv' = true → Sl i1 1 w5 3 ob kv' keep → (∀ b, ob = some b → w.heap.size ≤ b) → s51_p1 K (.pointer (some ⟨w1.heap.size, 0, none⟩)) (.pointer (some ⟨w2.heap.size, 0, none⟩)) w5 := by
    intro w5 kv' ob hk05 ra rb hsc hsl hob
    unfold s51_p1
    refine ldn_r rb (show 0 + 3 ≤ 3 by decide) ?_
    refine stn_r ra rfl (show 0 + 3 ≤ 3 by decide) (show ([kv', I torn, I a] : List Value).all scal = true by simp only [List.all_cons, hsc]; rfl) fun w6 r6 hk6 hz6 => ?_
    refine ldn_r r6 (show 0 + 3 ≤ 3 by decide) ?_
    have hs5 := hk05.size
    refine hK w6 kv' ob (hk05.then hk6 (fun k hk (q : k = _) => by omega)) (hsl.kp hk6 (fun b hb (q : b = _) => ?_)) hob
    obtain ⟨l, hr⟩ := hsl.row hb
    exact row_ne hr ra (by decide) q
  by_cases h0 : 0 < keep.length
  · have h0' : (0 : Int) < (keep.length : Int) := by omega
    simp only [h0', decide_true, e_fd, e_nck, e_pkt, e_pkf, e_gdtt, e_gdtf, e_gdft, e_gdff, e_ift, e_iff, e_not, e_ln, e_lnT, e_cp, e_cvi, e_ex20, e_ex21, e_ex30, e_ex31, e_ex32, e_add, e_sub, e_mul, e_quo, e_rem, e_and, e_or, e_xor, e_shl, e_shr, e_eql, e_neq, e_lss, e_leq, e_gtr, e_geq, e_beq, e_bne, e_peq1, e_peq2, e_pne1, e_pne2, e_zeq1, e_zeq2, e_zne1, e_zne2, e_feq1, e_fne1, e_feq2, e_fne2, e_seq, e_sne, e_ta1, e_ta2, Nat.zero_add, Nat.add_zero, Bool.not_true, Bool.not_false]
    refine ld1_r r14 rfl ?_
    refine hkv4.ln ?_
    refine mks_r (by omega) (by omega) fun w5 r5 hk5 hz5 => ?_
    refine st1_r (hk5.row' r4') (show 0 < 3 by decide) rfl fun w6 r6 hk6 hz6 => ?_
    have r6' : Row w6 w2.heap.size 32 [.slice (some ⟨w4.heap.size, 0, none⟩) keep.length keep.length, I torn, I a] := r6
    refine ld1_r r6' rfl ?_
    have n46 : ∀ {b : Nat}, b ≠ w2.heap.size → ¬ b = w2.heap.size := fun h => h
    refine ld1_r (hk6.row (hk5.row' r14) (fun (e : _ = _) => by omega)) rfl ?_
    have hk06 : Kp (fun _ => False) w w6 := (hk04.trans hk5).then hk6 (fun k hk (q : k = _) => by omega)
    have r56 := hk6.row r5 (fun (e : _ = _) => by omega)
    refine cp_r (o := 0) (n := keep.length) r56 (hkv.kp' hk06) rfl (by simp) (fun _ => rfl) fun w7 r7 hk7 hz7 => ?_
    rw [List.take_zero, List.nil_append, Nat.zero_add, List.drop_of_length_le (by simp), List.append_nil] at r7
    refine fin w7 _ (some w4.heap.size) (hk06.then hk7 (fun k hk (q : k = _) => by omega)) (hk7.row (hk6.row (hk5.row' r24) (fun (e : _ = _) => by omega)) (fun (e : _ = _) => by omega)) (hk7.row r6' (fun (e : _ = _) => by omega)) rfl ⟨keep.length, [], rfl, Nat.le_refl _, by simp, by rw [rows_i1, List.append_nil]; exact r7⟩ (fun b hb => by cases hb; omega)
  · have h0' : ¬ (0 : Int) < (keep.length : Int) := by omega
    simp only [h0', decide_false, e_fd, e_nck, e_pkt, e_pkf, e_gdtt, e_gdtf, e_gdft, e_gdff, e_ift, e_iff, e_not, e_ln, e_lnT, e_cp, e_cvi, e_ex20, e_ex21, e_ex30, e_ex31, e_ex32, e_add, e_sub, e_mul, e_quo, e_rem, e_and, e_or, e_xor, e_shl, e_shr, e_eql, e_neq, e_lss, e_leq, e_gtr, e_geq, e_beq, e_bne, e_peq1, e_peq2, e_pne1, e_pne2, e_zeq1, e_zeq2, e_zne1, e_zne2, e_feq1, e_fne1, e_feq2, e_fne2, e_seq, e_sne, e_ta1, e_ta2, Nat.zero_add, Nat.add_zero, Bool.not_true, Bool.not_false]
    have : keep = [] := List.eq_nil_of_length_eq_zero (by omega)
    subst this
    exact fin w4 _ none hk04 r24 r4' rfl ⟨rfl, rfl⟩ (fun b hb => by cases hb)

theorem er_mk {w : World} {b : Nat} {c : Int} {r : List Value} (hc : c ≠ 0) (hr : Row w b 96 (I c :: r)) : Er w (.iface 94 (.pointer (some ⟨b, 0, none⟩))) c := .inr ⟨hc, b, r, rfl, hr⟩

def burnS (s : DS) : Bool × DS := if s.left = 0 then (false, s) else if 0 < s.left - 1 then (false, { s with left := s.left - 1 }) else (true, cutS { s with left := s.left - 1 } s.keep s.torn s.at_)

section
variable {w : World} {d : Nat} {m : Mem} {s : DS} {K : Value → World → Prop}

theorem Dk.fr12 (h : Dk w d m s) {i : Nat} {x : List Int} (hx : s.fr i = some x) : i < 12 := by
  by_cases q : ∃ p ∈ m.ls, p.1 = i
  · obtain ⟨p, hp, e⟩ := q; rw [← e]; exact (h.lin p hp).1
  · rw [h.frn i (fun p hp e => q ⟨p, hp, e⟩)] at hx; cases hx
theorem Dk.kvs (h : Dk w d m s) : Vs I w m.kv s.keep := sl_vs h.kp h.klen
theorem Dk.kne (h : Dk w d m s) (b o c : Nat) (_ : 0 < s.keep.length) (e : m.kv = .slice (some ⟨b, o, none⟩) s.keep.length c) : b ≠ m.pb := by
  have hb := sl_blk h.kp e
  obtain ⟨l, hr⟩ := h.kp.row hb
  obtain ⟨L, _, hL, _⟩ := h.plat
  exact row_ne hr hL (by decide)

theorem burn_ok (h : Dk w d m s) (hK : ∀ w' m', Dk w' d m' (burnS s).2 → Stp w w' d m m' → K (.bool (burnS s).1) w') : cl Try.prog 54 #[.pointer (some ⟨d, 0, none⟩)] K w := by
  have l0 := h.left0
  have l1 := h.left1
  apply c54
  unfold s54_p1
  simp only [e_fd, e_nck, e_pkt, e_pkf, e_gdtt, e_gdtf, e_gdft, e_gdff, e_ift, e_iff, e_not, e_ln, e_lnT, e_cp, e_cvi, e_ex20, e_ex21, e_ex30, e_ex31, e_ex32, e_add, e_sub, e_mul, e_quo, e_rem, e_and, e_or, e_xor, e_shl, e_shr, e_eql, e_neq, e_lss, e_leq, e_gtr, e_geq, e_beq, e_bne, e_peq1, e_peq2, e_pne1, e_pne2, e_zeq1, e_zeq2, e_zne1, e_zne2, e_feq1, e_fne1, e_feq2, e_fne2, e_seq, e_sne, e_ta1, e_ta2, Nat.zero_add, Nat.add_zero, Bool.not_true, Bool.not_false]
  refine ld1_r h.disk rfl ?_
  simp only [e_fd, e_nck, e_pkt, e_pkf, e_gdtt, e_gdtf, e_gdft, e_gdff, e_ift, e_iff, e_not, e_ln, e_lnT, e_cp, e_cvi, e_ex20, e_ex21, e_ex30, e_ex31, e_ex32, e_add, e_sub, e_mul, e_quo, e_rem, e_and, e_or, e_xor, e_shl, e_shr, e_eql, e_neq, e_lss, e_leq, e_gtr, e_geq, e_beq, e_bne, e_peq1, e_peq2, e_pne1, e_pne2, e_zeq1, e_zeq2, e_zne1, e_zne2, e_feq1, e_fne1, e_feq2, e_fne2, e_seq, e_sne, e_ta1, e_ta2, Nat.zero_add, Nat.add_zero, Bool.not_true, Bool.not_false]
  unfold burnS at hK
  by_cases h0 : s.left = 0
  · have e : (s.left == 0) = true := by simpa using h0
    simp only [e, e_fd, e_nck, e_pkt, e_pkf, e_gdtt, e_gdtf, e_gdft, e_gdff, e_ift, e_iff, e_not, e_ln, e_lnT, e_cp, e_cvi, e_ex20, e_ex21, e_ex30, e_ex31, e_ex32, e_add, e_sub, e_mul, e_quo, e_rem, e_and, e_or, e_xor, e_shl, e_shr, e_eql, e_neq, e_lss, e_leq, e_gtr, e_geq, e_beq, e_bne, e_peq1, e_peq2, e_pne1, e_pne2, e_zeq1, e_zeq2, e_zne1, e_zne2, e_feq1, e_fne1, e_feq2, e_fne2, e_seq, e_sne, e_ta1, e_ta2, Nat.zero_add, Nat.add_zero, Bool.not_true, Bool.not_false]
    rw [if_pos h0] at hK
    exact hK w m h (Stp.refl _ _ _)
  · have e : (s.left == 0) = false := by simpa using h0
    simp only [e, e_fd, e_nck, e_pkt, e_pkf, e_gdtt, e_gdtf, e_gdft, e_gdff, e_ift, e_iff, e_not, e_ln, e_lnT, e_cp, e_cvi, e_ex20, e_ex21, e_ex30, e_ex31, e_ex32, e_add, e_sub, e_mul, e_quo, e_rem, e_and, e_or, e_xor, e_shl, e_shr, e_eql, e_neq, e_lss, e_leq, e_gtr, e_geq, e_beq, e_bne, e_peq1, e_peq2, e_pne1, e_pne2, e_zeq1, e_zeq2, e_zne1, e_zne2, e_feq1, e_fne1, e_feq2, e_fne2, e_seq, e_sne, e_ta1, e_ta2, Nat.zero_add, Nat.add_zero, Bool.not_true, Bool.not_false]
    rw [if_neg h0] at hK
    refine ld1_r h.disk rfl ?_
    simp only [e_fd, e_nck, e_pkt, e_pkf, e_gdtt, e_gdtf, e_gdft, e_gdff, e_ift, e_iff, e_not, e_ln, e_lnT, e_cp, e_cvi, e_ex20, e_ex21, e_ex30, e_ex31, e_ex32, e_add, e_sub, e_mul, e_quo, e_rem, e_and, e_or, e_xor, e_shl, e_shr, e_eql, e_neq, e_lss, e_leq, e_gtr, e_geq, e_beq, e_bne, e_peq1, e_peq2, e_pne1, e_pne2, e_zeq1, e_zeq2, e_zne1, e_zne2, e_feq1, e_fne1, e_feq2, e_fne2, e_seq, e_sne, e_ta1, e_ta2, Nat.zero_add, Nat.add_zero, Bool.not_true, Bool.not_false]
    rw [wrap64_id (by omega) (by omega)]
    refine st1_r h.disk (show 8 < 17 by decide) rfl fun w1 r1 hk1 hz1 => ?_
    have h1 : Dk w1 d m { s with left := s.left - 1 } := h.setD hk1 r1 rfl rfl rfl (show 0 ≤ s.left - 1 by omega) (show s.left - 1 ≤ 9223372036854775807 by omega)
    have st1 : Stp w w1 d m m := Stp.of hk1 fun b _ q => .inl q
    refine ld1_r h1.disk rfl ?_
    simp only [e_fd, e_nck, e_pkt, e_pkf, e_gdtt, e_gdtf, e_gdft, e_gdff, e_ift, e_iff, e_not, e_ln, e_lnT, e_cp, e_cvi, e_ex20, e_ex21, e_ex30, e_ex31, e_ex32, e_add, e_sub, e_mul, e_quo, e_rem, e_and, e_or, e_xor, e_shl, e_shr, e_eql, e_neq, e_lss, e_leq, e_gtr, e_geq, e_beq, e_bne, e_peq1, e_peq2, e_pne1, e_pne2, e_zeq1, e_zeq2, e_zne1, e_zne2, e_feq1, e_fne1, e_feq2, e_fne2, e_seq, e_sne, e_ta1, e_ta2, Nat.zero_add, Nat.add_zero, Bool.not_true, Bool.not_false]
    by_cases h2 : 0 < s.left - 1
    · simp only [h2, decide_true, e_fd, e_nck, e_pkt, e_pkf, e_gdtt, e_gdtf, e_gdft, e_gdff, e_ift, e_iff, e_not, e_ln, e_lnT, e_cp, e_cvi, e_ex20, e_ex21, e_ex30, e_ex31, e_ex32, e_add, e_sub, e_mul, e_quo, e_rem, e_and, e_or, e_xor, e_shl, e_shr, e_eql, e_neq, e_lss, e_leq, e_gtr, e_geq, e_beq, e_bne, e_peq1, e_peq2, e_pne1, e_pne2, e_zeq1, e_zeq2, e_zne1, e_zne2, e_feq1, e_fne1, e_feq2, e_fne2, e_seq, e_sne, e_ta1, e_ta2, Nat.zero_add, Nat.add_zero, Bool.not_true, Bool.not_false]
      rw [if_pos h2] at hK
      exact hK w1 m h1 st1
    · simp only [h2, decide_false, e_fd, e_nck, e_pkt, e_pkf, e_gdtt, e_gdtf, e_gdft, e_gdff, e_ift, e_iff, e_not, e_ln, e_lnT, e_cp, e_cvi, e_ex20, e_ex21, e_ex30, e_ex31, e_ex32, e_add, e_sub, e_mul, e_quo, e_rem, e_and, e_or, e_xor, e_shl, e_shr, e_eql, e_neq, e_lss, e_leq, e_gtr, e_geq, e_beq, e_bne, e_peq1, e_peq2, e_pne1, e_pne2, e_zeq1, e_zeq2, e_zne1, e_zne2, e_feq1, e_fne1, e_feq2, e_fne2, e_seq, e_sne, e_ta1, e_ta2, Nat.zero_add, Nat.add_zero, Bool.not_true, Bool.not_false]
      rw [if_neg h2] at hK
      refine ldn_r h1.disk (show 9 + 3 ≤ 17 by decide) ?_
      refine cut_ok (kv := m.kv) (keep := s.keep) (torn := s.torn) (a := s.at_) h1 h1.kvs h1.kne fun w2 m2 h2 st2 => ?_
      exact hK w2 m2 h2 (st1.trans st2)

/-! ### the calls -/
def wrS (s : DS) (i : Int) (x : List Int) : Int × DS :=
  if chkC s i x.length ≠ 0 then (chkC s i x.length, s)
  else ((if (burnS { s with fr := upd s.fr i.toNat (some x), wr := inc s.wr }).1 = true then 4 else 0), (burnS { s with fr := upd s.fr i.toNat (some x), wr := inc s.wr }).2)

theorem chk0 {i n : Int} (h : ¬ chkC s i n ≠ 0) : s.off = false ∧ 0 ≤ i ∧ i < 12 ∧ n = 16 := by
  unfold chkC at h
  cases ho : s.off with
  | true => rw [if_pos ho] at h; exact absurd (by decide) h
  | false =>
    rw [if_neg (by rw [ho]; decide)] at h
    by_cases hi : 0 ≤ i ∧ i < 12
    · rw [if_neg (by simpa using hi)] at h
      by_cases hn : n = 16
      · exact ⟨rfl, hi.1, hi.2, hn⟩
      · rw [if_pos hn] at h; exact absurd (by decide) h
    · rw [if_pos hi] at h; exact absurd (by decide) h

theorem write_ok {v : Value} {x : List Int} {i : Int} (h : Dk w d m s) (hv : Vs U8 w v x) (hsrc : ∀ b o c, 0 < x.length → v = .slice (some ⟨b, o, none⟩) x.length c → ¬ Own d m b) (hb : By x)
    (hK : ∀ w' m' r, Dk w' d m' (wrS s i x).2 → Stp w w' d m m' → Er w' r (wrS s i x).1 → K r w') : cl Try.prog 36 #[.pointer (some ⟨d, 0, none⟩), I i, v] K w := by
  apply c36
  unfold s36_p1
  refine hv.ln ?_
  refine check_ok h fun w1 e hk1 he => ?_
  refine he.neq ?_
  unfold wrS at hK
  have h1 := h.kp' hk1
  by_cases hc : chkC s i x.length ≠ 0
  · rw [decide_eq_true hc]
    simp only [e_fd, e_nck, e_pkt, e_pkf, e_gdtt, e_gdtf, e_gdft, e_gdff, e_ift, e_iff, e_not, e_ln, e_lnT, e_cp, e_cvi, e_ex20, e_ex21, e_ex30, e_ex31, e_ex32, e_add, e_sub, e_mul, e_quo, e_rem, e_and, e_or, e_xor, e_shl, e_shr, e_eql, e_neq, e_lss, e_leq, e_gtr, e_geq, e_beq, e_bne, e_peq1, e_peq2, e_pne1, e_pne2, e_zeq1, e_zeq2, e_zne1, e_zne2, e_feq1, e_fne1, e_feq2, e_fne2, e_seq, e_sne, e_ta1, e_ta2, Nat.zero_add, Nat.add_zero, Bool.not_true, Bool.not_false]
    rw [if_pos hc] at hK
    exact hK w1 m e h1 (Stp.of0 hk1) he
  · rw [decide_eq_false hc]
    simp only [e_fd, e_nck, e_pkt, e_pkf, e_gdtt, e_gdtf, e_gdft, e_gdff, e_ift, e_iff, e_not, e_ln, e_lnT, e_cp, e_cvi, e_ex20, e_ex21, e_ex30, e_ex31, e_ex32, e_add, e_sub, e_mul, e_quo, e_rem, e_and, e_or, e_xor, e_shl, e_shr, e_eql, e_neq, e_lss, e_leq, e_gtr, e_geq, e_beq, e_bne, e_peq1, e_peq2, e_pne1, e_pne2, e_zeq1, e_zeq2, e_zne1, e_zne2, e_feq1, e_fne1, e_feq2, e_fne2, e_seq, e_sne, e_ta1, e_ta2, Nat.zero_add, Nat.add_zero, Bool.not_true, Bool.not_false]
    rw [if_neg hc] at hK
    obtain ⟨_, hi0, hi1, hxl⟩ := chk0 hc
    obtain ⟨k, rfl⟩ : ∃ k : Nat, i = (k : Int) := ⟨i.toNat, by omega⟩
    have ek : ((k : Int)).toNat = k := by omega
    rw [ek] at hK
    refine put_ok h1 (by omega) (hv.kp' hk1) hsrc ⟨by omega, hb⟩ fun w2 m2 h2 st2 => ?_
    refine ld1_r h2.disk rfl ?_
    simp only [e_fd, e_nck, e_pkt, e_pkf, e_gdtt, e_gdtf, e_gdft, e_gdff, e_ift, e_iff, e_not, e_ln, e_lnT, e_cp, e_cvi, e_ex20, e_ex21, e_ex30, e_ex31, e_ex32, e_add, e_sub, e_mul, e_quo, e_rem, e_and, e_or, e_xor, e_shl, e_shr, e_eql, e_neq, e_lss, e_leq, e_gtr, e_geq, e_beq, e_bne, e_peq1, e_peq2, e_pne1, e_pne2, e_zeq1, e_zeq2, e_zne1, e_zne2, e_feq1, e_fne1, e_feq2, e_fne2, e_seq, e_sne, e_ta1, e_ta2, Nat.zero_add, Nat.add_zero, Bool.not_true, Bool.not_false]
    refine st1_r h2.disk (show 13 < 17 by decide) rfl fun w3 r3 hk3 hz3 => ?_
    have h3 : Dk w3 d m2 { s with fr := upd s.fr k (some x), wr := inc s.wr } := h2.setD hk3 r3 rfl rfl rfl h2.left0 h2.left1
    have st3 : Stp w w3 d m m2 := ((Stp.of0 hk1).trans st2).trans (Stp.of hk3 fun b _ q => .inl q)
    refine burn_ok h3 fun w4 m4 h4 st4 => ?_
    cases hb4 : (burnS { s with fr := upd s.fr k (some x), wr := inc s.wr }).1 with
    | true =>
      rw [hb4] at hK
      simp only [e_fd, e_nck, e_pkt, e_pkf, e_gdtt, e_gdtf, e_gdft, e_gdff, e_ift, e_iff, e_not, e_ln, e_lnT, e_cp, e_cvi, e_ex20, e_ex21, e_ex30, e_ex31, e_ex32, e_add, e_sub, e_mul, e_quo, e_rem, e_and, e_or, e_xor, e_shl, e_shr, e_eql, e_neq, e_lss, e_leq, e_gtr, e_geq, e_beq, e_bne, e_peq1, e_peq2, e_pne1, e_pne2, e_zeq1, e_zeq2, e_zne1, e_zne2, e_feq1, e_fne1, e_feq2, e_fne2, e_seq, e_sne, e_ta1, e_ta2, Nat.zero_add, Nat.add_zero, Bool.not_true, Bool.not_false]
      have hv4 : lnS v (fun t35 w => bdq [(.int .i64 0), (.string ⟨#[]⟩), (.int .i64 0), (.int .i64 0)] [(some (0, 1), (.int .i64 4)), (some (1, 1), (.string ⟨#[87, 114, 105, 116, 101]⟩)), (some (2, 1), I k), (some (3, 1), t35)] (fun t36 w => nw 96 (t36).cells (fun t37 w => K (.iface 94 t37) w) w) w) w4 := by
        have key : bdq [(.int .i64 0), (.string ⟨#[]⟩), (.int .i64 0), (.int .i64 0)] [(some (0, 1), (.int .i64 4)), (some (1, 1), (.string ⟨#[87, 114, 105, 116, 101]⟩)), (some (2, 1), I k), (some (3, 1), I x.length)] (fun t36 w => nw 96 (t36).cells (fun t37 w => K (.iface 94 t37) w) w) w4 := by
          refine bdq_r rfl ?_
          refine nw_r fun w5 r5 hk5 hz5 => ?_
          exact hK w5 m4 _ (h4.kp' hk5) ((st3.trans st4).trans (Stp.of0 hk5)) (er_mk (c := 4) (by decide) r5)
        rcases hv with ⟨rfl, rfl⟩ | ⟨a', cap', rfl, rfl⟩ | ⟨b, o, cap, rfl, _⟩
        · exact key
        · exact key
        · exact key
      exact hv4
    | false =>
      rw [hb4] at hK
      simp only [e_fd, e_nck, e_pkt, e_pkf, e_gdtt, e_gdtf, e_gdft, e_gdff, e_ift, e_iff, e_not, e_ln, e_lnT, e_cp, e_cvi, e_ex20, e_ex21, e_ex30, e_ex31, e_ex32, e_add, e_sub, e_mul, e_quo, e_rem, e_and, e_or, e_xor, e_shl, e_shr, e_eql, e_neq, e_lss, e_leq, e_gtr, e_geq, e_beq, e_bne, e_peq1, e_peq2, e_pne1, e_pne2, e_zeq1, e_zeq2, e_zne1, e_zne2, e_feq1, e_fne1, e_feq2, e_fne2, e_seq, e_sne, e_ta1, e_ta2, Nat.zero_add, Nat.add_zero, Bool.not_true, Bool.not_false]
      exact hK w4 m4 _ h4 (st3.trans st4) er0

def nowS (s : DS) (i : Nat) : List Int := (s.fr i).getD (s.flu i)
def rdS (s : DS) (i n : Int) : DS := if chkC s i n ≠ 0 then s else { s with rd := inc s.rd }
def rdD (s : DS) (i : Int) (L : List Int) : List Int := if chkC s i L.length ≠ 0 then L else nowS s i.toNat
theorem Dk.now (h : Dk w d m s) {i : Nat} (hi : i < 12) : Sec (nowS s i) := by
  unfold nowS
  cases hf : s.fr i with
  | none => exact h.fsec i hi
  | some x => exact h.rsec i x hf

theorem read_ok {L : List Int} {i : Int} {b cap : Nat} (h : Dk w d m s) (hr : Row w b 5 (L.map U8)) (hnb : ¬ Own d m b)
    (hK : ∀ w' r, Dk w' d m (rdS s i L.length) → Er w' r (chkC s i L.length) → Row w' b 5 ((rdD s i L).map U8) → Kp (fun c => c = d ∨ c = b) w w' → K r w') : cl Try.prog 37 #[.pointer (some ⟨d, 0, none⟩), I i, .slice (some ⟨b, 0, none⟩) L.length cap] K w := by
  apply c37
  unfold s37_p2
  simp only [e_fd, e_nck, e_pkt, e_pkf, e_gdtt, e_gdtf, e_gdft, e_gdff, e_ift, e_iff, e_not, e_ln, e_lnT, e_cp, e_cvi, e_ex20, e_ex21, e_ex30, e_ex31, e_ex32, e_add, e_sub, e_mul, e_quo, e_rem, e_and, e_or, e_xor, e_shl, e_shr, e_eql, e_neq, e_lss, e_leq, e_gtr, e_geq, e_beq, e_bne, e_peq1, e_peq2, e_pne1, e_pne2, e_zeq1, e_zeq2, e_zne1, e_zne2, e_feq1, e_fne1, e_feq2, e_fne2, e_seq, e_sne, e_ta1, e_ta2, Nat.zero_add, Nat.add_zero, Bool.not_true, Bool.not_false]
  refine check_ok h fun w1 e hk1 he => ?_
  refine he.neq ?_
  unfold rdS rdD at hK
  have h1 := h.kp' hk1
  have hr1 := hk1.row' hr
  by_cases hc : chkC s i L.length ≠ 0
  · rw [decide_eq_true hc]
    simp only [e_fd, e_nck, e_pkt, e_pkf, e_gdtt, e_gdtf, e_gdft, e_gdff, e_ift, e_iff, e_not, e_ln, e_lnT, e_cp, e_cvi, e_ex20, e_ex21, e_ex30, e_ex31, e_ex32, e_add, e_sub, e_mul, e_quo, e_rem, e_and, e_or, e_xor, e_shl, e_shr, e_eql, e_neq, e_lss, e_leq, e_gtr, e_geq, e_beq, e_bne, e_peq1, e_peq2, e_pne1, e_pne2, e_zeq1, e_zeq2, e_zne1, e_zne2, e_feq1, e_fne1, e_feq2, e_fne2, e_seq, e_sne, e_ta1, e_ta2, Nat.zero_add, Nat.add_zero, Bool.not_true, Bool.not_false]
    rw [if_pos hc, if_pos hc] at hK
    exact hK w1 e h1 he hr1 hk1.none
  · rw [decide_eq_false hc]
    simp only [e_fd, e_nck, e_pkt, e_pkf, e_gdtt, e_gdtf, e_gdft, e_gdff, e_ift, e_iff, e_not, e_ln, e_lnT, e_cp, e_cvi, e_ex20, e_ex21, e_ex30, e_ex31, e_ex32, e_add, e_sub, e_mul, e_quo, e_rem, e_and, e_or, e_xor, e_shl, e_shr, e_eql, e_neq, e_lss, e_leq, e_gtr, e_geq, e_beq, e_bne, e_peq1, e_peq2, e_pne1, e_pne2, e_zeq1, e_zeq2, e_zne1, e_zne2, e_feq1, e_fne1, e_feq2, e_fne2, e_seq, e_sne, e_ta1, e_ta2, Nat.zero_add, Nat.add_zero, Bool.not_true, Bool.not_false]
    rw [if_neg hc, if_neg hc] at hK
    have hc0 : chkC s i L.length = 0 := by simpa using hc
    rw [hc0] at hK
    obtain ⟨_, hi0, hi1, hxl⟩ := chk0 hc
    obtain ⟨k, rfl⟩ : ∃ k : Nat, i = (k : Int) := ⟨i.toNat, by omega⟩
    have ek : ((k : Int)).toNat = k := by omega
    rw [ek] at hK
    have hL16 : L.length = 16 := by omega
    have hnow := h.now (show k < 12 by omega)
    -- the count
    have fin : ∀ w2, Dk w2 d m s → Row w2 b 5 ((nowS s k).map U8) → Kp (fun c => c = d ∨ c = b) w w2 → s37_p1 K (.pointer (some ⟨d, 0, none⟩)) w2 := by
      intro w2 h2 r2 hk2
      unfold s37_p1
      simp only [e_fd, e_nck, e_pkt, e_pkf, e_gdtt, e_gdtf, e_gdft, e_gdff, e_ift, e_iff, e_not, e_ln, e_lnT, e_cp, e_cvi, e_ex20, e_ex21, e_ex30, e_ex31, e_ex32, e_add, e_sub, e_mul, e_quo, e_rem, e_and, e_or, e_xor, e_shl, e_shr, e_eql, e_neq, e_lss, e_leq, e_gtr, e_geq, e_beq, e_bne, e_peq1, e_peq2, e_pne1, e_pne2, e_zeq1, e_zeq2, e_zne1, e_zne2, e_feq1, e_fne1, e_feq2, e_fne2, e_seq, e_sne, e_ta1, e_ta2, Nat.zero_add, Nat.add_zero, Bool.not_true, Bool.not_false]
      refine ld1_r h2.disk rfl ?_
      simp only [e_fd, e_nck, e_pkt, e_pkf, e_gdtt, e_gdtf, e_gdft, e_gdff, e_ift, e_iff, e_not, e_ln, e_lnT, e_cp, e_cvi, e_ex20, e_ex21, e_ex30, e_ex31, e_ex32, e_add, e_sub, e_mul, e_quo, e_rem, e_and, e_or, e_xor, e_shl, e_shr, e_eql, e_neq, e_lss, e_leq, e_gtr, e_geq, e_beq, e_bne, e_peq1, e_peq2, e_pne1, e_pne2, e_zeq1, e_zeq2, e_zne1, e_zne2, e_feq1, e_fne1, e_feq2, e_fne2, e_seq, e_sne, e_ta1, e_ta2, Nat.zero_add, Nat.add_zero, Bool.not_true, Bool.not_false]
      refine st1_r h2.disk (show 12 < 17 by decide) rfl fun w3 r3 hk3 hz3 => ?_
      have h3 : Dk w3 d m { s with rd := inc s.rd } := h2.setD hk3 r3 rfl rfl rfl h2.left0 h2.left1
      exact hK w3 _ h3 er0 (hk3.row r2 (fun e => hnb (.inl e))) (hk2.trans (hk3.mono fun _ _ q => .inl q))
    have cpy : ∀ w2 v, Kp (fun _ => False) w w2 → Vs U8 w2 v (nowS s k) → cpq 1 (.slice (some ⟨b, 0, none⟩) L.length cap) v (fun t28 w => s37_p1 K (.pointer (some ⟨d, 0, none⟩)) w) w2 := by
      intro w2 v hk2 hv
      refine cp_r (o := 0) (n := L.length) (hk2.row' hr) hv (by rw [hnow.1, hL16]) (by simp) (fun _ => rfl) fun w3 r3 hk3 hz3 => ?_
      rw [List.take_zero, List.nil_append, Nat.zero_add, List.drop_of_length_le (by simp), List.append_nil] at r3
      exact fin w3 ((h.kp' hk2).frame hk3 (fun c hc (q : c = b) => hnb (q ▸ hc))) r3 (hk2.none.trans (hk3.mono fun _ _ q => .inr q))
    refine lookup_ok h1 k (fun hN => ?_) (fun p x hp hpk hlk hfr hrow => ?_)
    · simp only [e_fd, e_nck, e_pkt, e_pkf, e_gdtt, e_gdtf, e_gdft, e_gdff, e_ift, e_iff, e_not, e_ln, e_lnT, e_cp, e_cvi, e_ex20, e_ex21, e_ex30, e_ex31, e_ex32, e_add, e_sub, e_mul, e_quo, e_rem, e_and, e_or, e_xor, e_shl, e_shr, e_eql, e_neq, e_lss, e_leq, e_gtr, e_geq, e_beq, e_bne, e_peq1, e_peq2, e_pne1, e_pne2, e_zeq1, e_zeq2, e_zne1, e_zne2, e_feq1, e_fne1, e_feq2, e_fne2, e_seq, e_sne, e_ta1, e_ta2, Nat.zero_add, Nat.add_zero, Bool.not_true, Bool.not_false]
      have hN' : s.fr k = none := by rw [lk_eq (by omega)] at hN; exact hN
      refine ldn_r h1.disk (show 0 + 2 ≤ 17 by decide) ?_
      refine span_ok (show k < 12 by omega) fun w2 hk2 => ?_
      simp only [e_fd, e_nck, e_pkt, e_pkf, e_gdtt, e_gdtf, e_gdft, e_gdff, e_ift, e_iff, e_not, e_ln, e_lnT, e_cp, e_cvi, e_ex20, e_ex21, e_ex30, e_ex31, e_ex32, e_add, e_sub, e_mul, e_quo, e_rem, e_and, e_or, e_xor, e_shl, e_shr, e_eql, e_neq, e_lss, e_leq, e_gtr, e_geq, e_beq, e_bne, e_peq1, e_peq2, e_pne1, e_pne2, e_zeq1, e_zeq2, e_zne1, e_zne2, e_feq1, e_fne1, e_feq2, e_fne2, e_seq, e_sne, e_ta1, e_ta2, Nat.zero_add, Nat.add_zero, Bool.not_true, Bool.not_false]
      have h2 := h1.kp' hk2
      refine ld1_r h2.disk rfl ?_
      refine pslice (show k < 12 by omega) (Nat.le_refl 16) m.pb rfl rfl ?_
      obtain ⟨P, hP1, hP2, hP3⟩ := h2.plat
      refine cpy w2 _ (hk1.trans hk2) ?_
      have : Vs U8 w2 (.slice (some ⟨m.pb, 16 * k, none⟩) 16 (192 - 16 * k)) ((P.drop (16 * k)).take 16) := vs_part hP2 (by omega) (by omega) (by omega)
      have e : (P.drop (16 * k)).take 16 = nowS s k := by
        unfold nowS; rw [hN']; exact hP3 k (by omega)
      rw [e] at this
      exact this
    · unfold buf
      simp only [e_fd, e_nck, e_pkt, e_pkf, e_gdtt, e_gdtf, e_gdft, e_gdff, e_ift, e_iff, e_not, e_ln, e_lnT, e_cp, e_cvi, e_ex20, e_ex21, e_ex30, e_ex31, e_ex32, e_add, e_sub, e_mul, e_quo, e_rem, e_and, e_or, e_xor, e_shl, e_shr, e_eql, e_neq, e_lss, e_leq, e_gtr, e_geq, e_beq, e_bne, e_peq1, e_peq2, e_pne1, e_pne2, e_zeq1, e_zeq2, e_zne1, e_zne2, e_feq1, e_fne1, e_feq2, e_fne2, e_seq, e_sne, e_ta1, e_ta2, Nat.zero_add, Nat.add_zero, Bool.not_true, Bool.not_false]
      have hxs := h1.rsec _ _ hfr
      have hpk' : p.1 = k := by omega
      refine cpy w1 _ hk1 ?_
      have : Vs U8 w1 (.slice (some ⟨p.2, 0, none⟩) 16 16) ((x.drop 0).take 16) := vs_part hrow (by rw [hxs.1]; omega) (by omega) (by omega)
      rw [List.drop_zero, List.take_of_length_le (by rw [hxs.1]; omega)] at this
      have e : nowS s k = x := by unfold nowS; rw [← hpk', hfr]; rfl
      rw [e]; exact this

def crS (s : DS) (keep : List Int) (torn a : Int) : Int × DS := if s.off = true then (4, s) else (0, cutS s keep torn a)
theorem crash_ok {kv : Value} {keep : List Int} {torn a : Int} (h : Dk w d m s) (hkv : Vs I w kv keep) (hne : ∀ b o c, 0 < keep.length → kv = .slice (some ⟨b, o, none⟩) keep.length c → b ≠ m.pb)
    (hK : ∀ w' m' r, Dk w' d m' (crS s keep torn a).2 → Stp w w' d m m' → Er w' r (crS s keep torn a).1 → K r w') : cl Try.prog 30 #[.pointer (some ⟨d, 0, none⟩), .agg #[kv, I torn, I a]] K w := by
  apply c30
  unfold s30_p1
  refine nw_r fun w1 r1 hk1 hz1 => ?_
  have h1 := h.kp' hk1
  simp only [e_fd, e_nck, e_pkt, e_pkf, e_gdtt, e_gdtf, e_gdft, e_gdff, e_ift, e_iff, e_not, e_ln, e_lnT, e_cp, e_cvi, e_ex20, e_ex21, e_ex30, e_ex31, e_ex32, e_add, e_sub, e_mul, e_quo, e_rem, e_and, e_or, e_xor, e_shl, e_shr, e_eql, e_neq, e_lss, e_leq, e_gtr, e_geq, e_beq, e_bne, e_peq1, e_peq2, e_pne1, e_pne2, e_zeq1, e_zeq2, e_zne1, e_zne2, e_feq1, e_fne1, e_feq2, e_fne2, e_seq, e_sne, e_ta1, e_ta2, Nat.zero_add, Nat.add_zero, Bool.not_true, Bool.not_false]
  refine ld1_r h1.disk rfl ?_
  unfold crS at hK
  cases ho : s.off with
  | true =>
    rw [if_pos ho] at hK
    simp only [e_fd, e_nck, e_pkt, e_pkf, e_gdtt, e_gdtf, e_gdft, e_gdff, e_ift, e_iff, e_not, e_ln, e_lnT, e_cp, e_cvi, e_ex20, e_ex21, e_ex30, e_ex31, e_ex32, e_add, e_sub, e_mul, e_quo, e_rem, e_and, e_or, e_xor, e_shl, e_shr, e_eql, e_neq, e_lss, e_leq, e_gtr, e_geq, e_beq, e_bne, e_peq1, e_peq2, e_pne1, e_pne2, e_zeq1, e_zeq2, e_zne1, e_zne2, e_feq1, e_fne1, e_feq2, e_fne2, e_seq, e_sne, e_ta1, e_ta2, Nat.zero_add, Nat.add_zero, Bool.not_true, Bool.not_false]
    refine bdq_r rfl ?_
    refine nw_r fun w2 r2 hk2 hz2 => ?_
    exact hK w2 m _ (h1.kp' hk2) (Stp.of0 (hk1.trans hk2)) (er_mk (c := 4) (by decide) r2)
  | false =>
    rw [if_neg (by rw [ho]; decide)] at hK
    simp only [e_fd, e_nck, e_pkt, e_pkf, e_gdtt, e_gdtf, e_gdft, e_gdff, e_ift, e_iff, e_not, e_ln, e_lnT, e_cp, e_cvi, e_ex20, e_ex21, e_ex30, e_ex31, e_ex32, e_add, e_sub, e_mul, e_quo, e_rem, e_and, e_or, e_xor, e_shl, e_shr, e_eql, e_neq, e_lss, e_leq, e_gtr, e_geq, e_beq, e_bne, e_peq1, e_peq2, e_pne1, e_pne2, e_zeq1, e_zeq2, e_zne1, e_zne2, e_feq1, e_fne1, e_feq2, e_fne2, e_seq, e_sne, e_ta1, e_ta2, Nat.zero_add, Nat.add_zero, Bool.not_true, Bool.not_false]
    refine ldn_r r1 (show 0 + 3 ≤ 3 by decide) ?_
    refine cut_ok (kv := kv) (keep := keep) (torn := torn) (a := a) h1 (hkv.kp' hk1) hne fun w2 m2 h2 st2 => ?_
    exact hK w2 m2 _ h2 ((Stp.of0 hk1).trans st2) er0

def reS (s : DS) : Int × DS := if s.off = true then (0, { s with off := false, rs := inc s.rs }) else (5, s)
theorem restart_ok (h : Dk w d m s) (hK : ∀ w' r, Dk w' d m (reS s).2 → Kp (fun b => b = d) w w' → Er w' r (reS s).1 → K r w') : cl Try.prog 26 #[.pointer (some ⟨d, 0, none⟩)] K w := by
  apply c26
  unfold s26_p1
  simp only [e_fd, e_nck, e_pkt, e_pkf, e_gdtt, e_gdtf, e_gdft, e_gdff, e_ift, e_iff, e_not, e_ln, e_lnT, e_cp, e_cvi, e_ex20, e_ex21, e_ex30, e_ex31, e_ex32, e_add, e_sub, e_mul, e_quo, e_rem, e_and, e_or, e_xor, e_shl, e_shr, e_eql, e_neq, e_lss, e_leq, e_gtr, e_geq, e_beq, e_bne, e_peq1, e_peq2, e_pne1, e_pne2, e_zeq1, e_zeq2, e_zne1, e_zne2, e_feq1, e_fne1, e_feq2, e_fne2, e_seq, e_sne, e_ta1, e_ta2, Nat.zero_add, Nat.add_zero, Bool.not_true, Bool.not_false]
  refine ld1_r h.disk rfl ?_
  unfold reS at hK
  cases ho : s.off with
  | false =>
    rw [if_neg (by rw [ho]; decide)] at hK
    simp only [e_fd, e_nck, e_pkt, e_pkf, e_gdtt, e_gdtf, e_gdft, e_gdff, e_ift, e_iff, e_not, e_ln, e_lnT, e_cp, e_cvi, e_ex20, e_ex21, e_ex30, e_ex31, e_ex32, e_add, e_sub, e_mul, e_quo, e_rem, e_and, e_or, e_xor, e_shl, e_shr, e_eql, e_neq, e_lss, e_leq, e_gtr, e_geq, e_beq, e_bne, e_peq1, e_peq2, e_pne1, e_pne2, e_zeq1, e_zeq2, e_zne1, e_zne2, e_feq1, e_fne1, e_feq2, e_fne2, e_seq, e_sne, e_ta1, e_ta2, Nat.zero_add, Nat.add_zero, Bool.not_true, Bool.not_false]
    refine bdq_r rfl ?_
    refine nw_r fun w2 r2 hk2 hz2 => ?_
    exact hK w2 _ (h.kp' hk2) hk2.none (er_mk (c := 5) (by decide) r2)
  | true =>
    rw [if_pos ho] at hK
    simp only [e_fd, e_nck, e_pkt, e_pkf, e_gdtt, e_gdtf, e_gdft, e_gdff, e_ift, e_iff, e_not, e_ln, e_lnT, e_cp, e_cvi, e_ex20, e_ex21, e_ex30, e_ex31, e_ex32, e_add, e_sub, e_mul, e_quo, e_rem, e_and, e_or, e_xor, e_shl, e_shr, e_eql, e_neq, e_lss, e_leq, e_gtr, e_geq, e_beq, e_bne, e_peq1, e_peq2, e_pne1, e_pne2, e_zeq1, e_zeq2, e_zne1, e_zne2, e_feq1, e_fne1, e_feq2, e_fne2, e_seq, e_sne, e_ta1, e_ta2, Nat.zero_add, Nat.add_zero, Bool.not_true, Bool.not_false]
    refine st1_r h.disk (show 7 < 17 by decide) rfl fun w1 r1 hk1 hz1 => ?_
    have h1 : Dk w1 d m { s with off := false } := h.setD hk1 r1 rfl rfl rfl h.left0 h.left1
    refine ld1_r h1.disk rfl ?_
    simp only [e_fd, e_nck, e_pkt, e_pkf, e_gdtt, e_gdtf, e_gdft, e_gdff, e_ift, e_iff, e_not, e_ln, e_lnT, e_cp, e_cvi, e_ex20, e_ex21, e_ex30, e_ex31, e_ex32, e_add, e_sub, e_mul, e_quo, e_rem, e_and, e_or, e_xor, e_shl, e_shr, e_eql, e_neq, e_lss, e_leq, e_gtr, e_geq, e_beq, e_bne, e_peq1, e_peq2, e_pne1, e_pne2, e_zeq1, e_zeq2, e_zne1, e_zne2, e_feq1, e_fne1, e_feq2, e_fne2, e_seq, e_sne, e_ta1, e_ta2, Nat.zero_add, Nat.add_zero, Bool.not_true, Bool.not_false]
    refine st1_r h1.disk (show 16 < 17 by decide) rfl fun w2 r2 hk2 hz2 => ?_
    have h2 : Dk w2 d m { s with off := false, rs := inc s.rs } := h1.setD hk2 r2 rfl rfl rfl h.left0 h.left1
    exact hK w2 _ h2 (hk1.trans hk2) er0

def arS (s : DS) (after : Int) (keep : List Int) (torn a : Int) : Int × DS :=
  if s.off = true then (4, s) else if after < 1 then (3, s) else (0, { s with left := after, keep := keep, torn := torn, at_ := a })
theorem stp_setK {w w1 w2 : World} {d : Nat} {m : Mem} {kv' : Value} {kob' : Option Nat} (hk1 : Kp (fun _ => False) w w1) (hk2 : Kp (fun b => b = d) w1 w2) (hob : ∀ b, kob' = some b → w.heap.size ≤ b) : Stp w w2 d m { m with kv := kv', kob := kob' } := by
  refine ⟨hk1.none.then hk2 (fun b _ q => .inl q), ?_⟩
  rintro b (q | q | q | q | q | q | q | q)
  · exact .inl (.inl q)
  · exact .inl (.inr (.inl q))
  · exact .inl (.inr (.inr (.inl q)))
  · exact .inl (.inr (.inr (.inr (.inl q))))
  · exact .inl (.inr (.inr (.inr (.inr (.inl q)))))
  · exact .inr (hob b q)
  · exact .inl (.inr (.inr (.inr (.inr (.inr (.inr (.inl q)))))))
  · exact .inl (.inr (.inr (.inr (.inr (.inr (.inr (.inr q)))))))
theorem arm_ok {kv : Value} {keep : List Int} {after torn a : Int} (h : Dk w d m s) (hkv : Vs I w kv keep) (hl : keep.length ≤ 65536) (ha : after ≤ 9223372036854775807)
    (hK : ∀ w' m' r, Dk w' d m' (arS s after keep torn a).2 → Stp w w' d m m' → Er w' r (arS s after keep torn a).1 → K r w') : cl Try.prog 38 #[.pointer (some ⟨d, 0, none⟩), I after, .agg #[kv, I torn, I a]] K w := by
  apply c38
  unfold s38_p1
  refine nw_r fun w1 r1 hk1 hz1 => ?_
  have h1 := h.kp' hk1
  simp only [e_fd, e_nck, e_pkt, e_pkf, e_gdtt, e_gdtf, e_gdft, e_gdff, e_ift, e_iff, e_not, e_ln, e_lnT, e_cp, e_cvi, e_ex20, e_ex21, e_ex30, e_ex31, e_ex32, e_add, e_sub, e_mul, e_quo, e_rem, e_and, e_or, e_xor, e_shl, e_shr, e_eql, e_neq, e_lss, e_leq, e_gtr, e_geq, e_beq, e_bne, e_peq1, e_peq2, e_pne1, e_pne2, e_zeq1, e_zeq2, e_zne1, e_zne2, e_feq1, e_fne1, e_feq2, e_fne2, e_seq, e_sne, e_ta1, e_ta2, Nat.zero_add, Nat.add_zero, Bool.not_true, Bool.not_false]
  refine ld1_r h1.disk rfl ?_
  unfold arS at hK
  cases ho : s.off with
  | true =>
    rw [if_pos ho] at hK
    simp only [e_fd, e_nck, e_pkt, e_pkf, e_gdtt, e_gdtf, e_gdft, e_gdff, e_ift, e_iff, e_not, e_ln, e_lnT, e_cp, e_cvi, e_ex20, e_ex21, e_ex30, e_ex31, e_ex32, e_add, e_sub, e_mul, e_quo, e_rem, e_and, e_or, e_xor, e_shl, e_shr, e_eql, e_neq, e_lss, e_leq, e_gtr, e_geq, e_beq, e_bne, e_peq1, e_peq2, e_pne1, e_pne2, e_zeq1, e_zeq2, e_zne1, e_zne2, e_feq1, e_fne1, e_feq2, e_fne2, e_seq, e_sne, e_ta1, e_ta2, Nat.zero_add, Nat.add_zero, Bool.not_true, Bool.not_false]
    refine bdq_r rfl ?_
    refine nw_r fun w2 r2 hk2 hz2 => ?_
    exact hK w2 m _ (h1.kp' hk2) (Stp.of0 (hk1.trans hk2)) (er_mk (c := 4) (by decide) r2)
  | false =>
    rw [if_neg (by rw [ho]; decide)] at hK
    simp only [e_fd, e_nck, e_pkt, e_pkf, e_gdtt, e_gdtf, e_gdft, e_gdff, e_ift, e_iff, e_not, e_ln, e_lnT, e_cp, e_cvi, e_ex20, e_ex21, e_ex30, e_ex31, e_ex32, e_add, e_sub, e_mul, e_quo, e_rem, e_and, e_or, e_xor, e_shl, e_shr, e_eql, e_neq, e_lss, e_leq, e_gtr, e_geq, e_beq, e_bne, e_peq1, e_peq2, e_pne1, e_pne2, e_zeq1, e_zeq2, e_zne1, e_zne2, e_feq1, e_fne1, e_feq2, e_fne2, e_seq, e_sne, e_ta1, e_ta2, Nat.zero_add, Nat.add_zero, Bool.not_true, Bool.not_false]
    by_cases hn : after < 1
    · simp only [hn, decide_true, e_fd, e_nck, e_pkt, e_pkf, e_gdtt, e_gdtf, e_gdft, e_gdff, e_ift, e_iff, e_not, e_ln, e_lnT, e_cp, e_cvi, e_ex20, e_ex21, e_ex30, e_ex31, e_ex32, e_add, e_sub, e_mul, e_quo, e_rem, e_and, e_or, e_xor, e_shl, e_shr, e_eql, e_neq, e_lss, e_leq, e_gtr, e_geq, e_beq, e_bne, e_peq1, e_peq2, e_pne1, e_pne2, e_zeq1, e_zeq2, e_zne1, e_zne2, e_feq1, e_fne1, e_feq2, e_fne2, e_seq, e_sne, e_ta1, e_ta2, Nat.zero_add, Nat.add_zero, Bool.not_true, Bool.not_false]
      rw [if_pos hn] at hK
      refine bdq_r rfl ?_
      refine nw_r fun w2 r2 hk2 hz2 => ?_
      exact hK w2 m _ (h1.kp' hk2) (Stp.of0 (hk1.trans hk2)) (er_mk (c := 3) (by decide) r2)
    · simp only [hn, decide_false, e_fd, e_nck, e_pkt, e_pkf, e_gdtt, e_gdtf, e_gdft, e_gdff, e_ift, e_iff, e_not, e_ln, e_lnT, e_cp, e_cvi, e_ex20, e_ex21, e_ex30, e_ex31, e_ex32, e_add, e_sub, e_mul, e_quo, e_rem, e_and, e_or, e_xor, e_shl, e_shr, e_eql, e_neq, e_lss, e_leq, e_gtr, e_geq, e_beq, e_bne, e_peq1, e_peq2, e_pne1, e_pne2, e_zeq1, e_zeq2, e_zne1, e_zne2, e_feq1, e_fne1, e_feq2, e_fne2, e_seq, e_sne, e_ta1, e_ta2, Nat.zero_add, Nat.add_zero, Bool.not_true, Bool.not_false]
      rw [if_neg hn] at hK
      refine ldn_r r1 (show 0 + 3 ≤ 3 by decide) ?_
      refine copyPlan_ok (kv := kv) (keep := keep) (torn := torn) (a := a) (hkv.kp' hk1) hl fun w2 kv' ob hk2 hsl hob => ?_
      refine bdq_r (l := [I after, kv', I torn, I a]) rfl ?_
      have h2 := h1.kp' hk2
      have hz2 := hk1.size
      refine stn_r h2.disk rfl (show 8 + 4 ≤ 17 by decide) (show ([I after, kv', I torn, I a] : List Value).all scal = true by simp only [List.all_cons, sl_scal hsl]; rfl) fun w3 r3 hk3 hz3 => ?_
      have hsl3 : Sl i1 1 w3 3 ob kv' keep := hsl.kp hk3 (fun b hb (q : b = d) => by have := h.lt (.inl rfl); have := hob b hb; omega)
      have h3 : Dk w3 d { m with kv := kv', kob := ob } { s with left := after, keep := keep, torn := torn, at_ := a } := h2.setK hk3 r3 rfl rfl hsl3 hl (show 0 ≤ after by omega) ha
      exact hK w3 _ _ h3 (stp_setK (hk1.trans hk2) hk3 (fun b hb => by have := hob b hb; omega)) er0

def diS (s : DS) : Int × DS := if s.off = true then (4, s) else (0, { s with left := 0, keep := [], torn := 0, at_ := 0 })
theorem disarm_ok (h : Dk w d m s) (hK : ∀ w' m' r, Dk w' d m' (diS s).2 → Stp w w' d m m' → Er w' r (diS s).1 → K r w') : cl Try.prog 39 #[.pointer (some ⟨d, 0, none⟩)] K w := by
  apply c39
  unfold s39_p1
  simp only [e_fd, e_nck, e_pkt, e_pkf, e_gdtt, e_gdtf, e_gdft, e_gdff, e_ift, e_iff, e_not, e_ln, e_lnT, e_cp, e_cvi, e_ex20, e_ex21, e_ex30, e_ex31, e_ex32, e_add, e_sub, e_mul, e_quo, e_rem, e_and, e_or, e_xor, e_shl, e_shr, e_eql, e_neq, e_lss, e_leq, e_gtr, e_geq, e_beq, e_bne, e_peq1, e_peq2, e_pne1, e_pne2, e_zeq1, e_zeq2, e_zne1, e_zne2, e_feq1, e_fne1, e_feq2, e_fne2, e_seq, e_sne, e_ta1, e_ta2, Nat.zero_add, Nat.add_zero, Bool.not_true, Bool.not_false]
  refine ld1_r h.disk rfl ?_
  unfold diS at hK
  cases ho : s.off with
  | true =>
    rw [if_pos ho] at hK
    simp only [e_fd, e_nck, e_pkt, e_pkf, e_gdtt, e_gdtf, e_gdft, e_gdff, e_ift, e_iff, e_not, e_ln, e_lnT, e_cp, e_cvi, e_ex20, e_ex21, e_ex30, e_ex31, e_ex32, e_add, e_sub, e_mul, e_quo, e_rem, e_and, e_or, e_xor, e_shl, e_shr, e_eql, e_neq, e_lss, e_leq, e_gtr, e_geq, e_beq, e_bne, e_peq1, e_peq2, e_pne1, e_pne2, e_zeq1, e_zeq2, e_zne1, e_zne2, e_feq1, e_fne1, e_feq2, e_fne2, e_seq, e_sne, e_ta1, e_ta2, Nat.zero_add, Nat.add_zero, Bool.not_true, Bool.not_false]
    refine bdq_r rfl ?_
    refine nw_r fun w2 r2 hk2 hz2 => ?_
    exact hK w2 m _ (h.kp' hk2) (Stp.of0 hk2) (er_mk (c := 4) (by decide) r2)
  | false =>
    rw [if_neg (by rw [ho]; decide)] at hK
    simp only [e_fd, e_nck, e_pkt, e_pkf, e_gdtt, e_gdtf, e_gdft, e_gdff, e_ift, e_iff, e_not, e_ln, e_lnT, e_cp, e_cvi, e_ex20, e_ex21, e_ex30, e_ex31, e_ex32, e_add, e_sub, e_mul, e_quo, e_rem, e_and, e_or, e_xor, e_shl, e_shr, e_eql, e_neq, e_lss, e_leq, e_gtr, e_geq, e_beq, e_bne, e_peq1, e_peq2, e_pne1, e_pne2, e_zeq1, e_zeq2, e_zne1, e_zne2, e_feq1, e_fne1, e_feq2, e_fne2, e_seq, e_sne, e_ta1, e_ta2, Nat.zero_add, Nat.add_zero, Bool.not_true, Bool.not_false]
    refine bdq_r rfl ?_
    refine stn_r h.disk rfl (show 8 + 4 ≤ 17 by decide) rfl fun w1 r1 hk1 hz1 => ?_
    have h1 : Dk w1 d { m with kv := .slice none 0 0, kob := none } { s with left := 0, keep := [], torn := 0, at_ := 0 } := h.setK hk1 r1 rfl rfl ⟨rfl, rfl⟩ (show (0 : Nat) ≤ 65536 by decide) (show (0 : Int) ≤ 0 by decide) (show (0 : Int) ≤ 9223372036854775807 by decide)
    exact hK w1 _ _ h1 (stp_setK (Kp.refl _ _) hk1 (fun b hb => by cases hb)) er0

theorem offline_ok (h : Dk w d m s) (hK : K (.bool s.off) w) : cl Try.prog 20 #[.pointer (some ⟨d, 0, none⟩)] K w := by
  apply c20
  unfold s20_p1
  simp only [e_fd, e_nck, e_pkt, e_pkf, e_gdtt, e_gdtf, e_gdft, e_gdff, e_ift, e_iff, e_not, e_ln, e_lnT, e_cp, e_cvi, e_ex20, e_ex21, e_ex30, e_ex31, e_ex32, e_add, e_sub, e_mul, e_quo, e_rem, e_and, e_or, e_xor, e_shl, e_shr, e_eql, e_neq, e_lss, e_leq, e_gtr, e_geq, e_beq, e_bne, e_peq1, e_peq2, e_pne1, e_pne2, e_zeq1, e_zeq2, e_zne1, e_zne2, e_feq1, e_fne1, e_feq2, e_fne2, e_seq, e_sne, e_ta1, e_ta2, Nat.zero_add, Nat.add_zero, Bool.not_true, Bool.not_false]
  exact ld1_r h.disk rfl hK
end
end Go.Proofs.Qxb6500895a
