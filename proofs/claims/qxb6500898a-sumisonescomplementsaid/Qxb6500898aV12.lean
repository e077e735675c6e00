import Derived.Test.Qxb6500898aV11
namespace Go.Proofs.Qxb6500898a
open Go.Sh Go.RowKit
set_option linter.unusedVariables false
set_option linter.unusedSimpArgs false

set_option maxRecDepth 100000 in
theorem info5' : (Try.prog.info? 5).map (·.size) = some 1 := by kernel_rfl
theorem info5 : ∃ i, Try.prog.info? 5 = some i ∧ i.size = 1 := by
  have := info5'
  rw [Option.map_eq_some_iff] at this
  exact this
abbrev Pt (b o : Nat) : Value := .pointer (some ⟨b, o, none⟩)
section
variable {w w' w2 : World} {v d t wv rv : Value} {ob ob0 : Option Nat} {o mb off : Nat} {xs ys zs r buf : List Int} {pre post : List Value} {K : Value → World → Prop} {i e p m : Nat} {z c n : Int} {S : Nat → Prop} {f : Bool}
/-- the next octets of a reader -/
theorem next_ok (hr : Row w mb 28 [wv, rv, I (off : Nat), .bool f]) (hb : Bs w rv buf) (hl : buf.length ≤ 1000000000000) (ho : off ≤ buf.length)
    (hN : (f = true ∨ ¬ FitsP buf.length off n) → ∀ w', Row w' mb 28 [wv, rv, I (off : Nat), .bool true] → Kp (fun k => k = mb) w w' → K (.slice none 0 0) w')
    (hY : f = false → FitsP buf.length off n → ∀ w' v', Row w' mb 28 [wv, rv, I (off + n.toNat : Nat), .bool false] → Kp (fun k => k = mb) w w' → (0 < n → ∃ x l c, v' = .slice (some x) l c) → (∀ w2, Bs w2 rv buf → Bs w2 v' ((buf.drop off).take n.toNat)) → K v' w') : cl Try.prog 98 #[Pt mb 1, I n] K w := by
  apply c98
  unfold s98_p5 s98_p4 s98_p4_d
  have k1 : Kp (fun _ => False) w (drw w) := kp_drw
  generalize drw w = w1 at k1 ⊢
  have hr1 := k1.row' hr
  have hb1 := hb.kp' k1
  try simp only [e_fd, e_nck, e_pkt, e_pkf, e_gdtt, e_gdtf, e_gdft, e_gdff, e_ift, e_iff, e_not, e_ln, e_lnT, e_cp, e_cvi, e_ex20, e_ex21, e_ex30, e_ex31, e_ex32, e_add, e_sub, e_mul, e_quo, e_rem, e_and, e_or, e_xor, e_shl, e_shr, e_eql, e_neq, e_lss, e_leq, e_gtr, e_geq, e_beq, e_bne, e_peq1, e_peq2, e_pne1, e_pne2, e_zeq1, e_zeq2, e_zne1, e_zne2, e_feq1, e_fne1, e_feq2, e_fne2, e_seq, e_sne, e_ta1, e_ta2, Nat.zero_add, Nat.add_zero, Bool.not_true, Bool.not_false]
  refine ld1_r hr1 rfl ?_
  have no : ∀ {w2 : World}, Kp (fun _ => False) w w2 → (f = true ∨ ¬ FitsP buf.length off n) → s98_p3 K (Pt mb 1) (I n) (.bool true) w2 := by
    intro w2 k2 q
    unfold s98_p3
    try simp only [e_fd, e_nck, e_pkt, e_pkf, e_gdtt, e_gdtf, e_gdft, e_gdff, e_ift, e_iff, e_not, e_ln, e_lnT, e_cp, e_cvi, e_ex20, e_ex21, e_ex30, e_ex31, e_ex32, e_add, e_sub, e_mul, e_quo, e_rem, e_and, e_or, e_xor, e_shl, e_shr, e_eql, e_neq, e_lss, e_leq, e_gtr, e_geq, e_beq, e_bne, e_peq1, e_peq2, e_pne1, e_pne2, e_zeq1, e_zeq2, e_zne1, e_zne2, e_feq1, e_fne1, e_feq2, e_fne2, e_seq, e_sne, e_ta1, e_ta2, Nat.zero_add, Nat.add_zero, Bool.not_true, Bool.not_false]
    refine st1_r (k2.row' hr) (show 3 < 4 by decide) rfl fun w3 r3 hk3 hz3 => ?_
    exact hN q w3 r3 ((k2.mono fun _ _ q => q.elim).trans hk3)
  cases f with
  | true =>
    try simp only [e_fd, e_nck, e_pkt, e_pkf, e_gdtt, e_gdtf, e_gdft, e_gdff, e_ift, e_iff, e_not, e_ln, e_lnT, e_cp, e_cvi, e_ex20, e_ex21, e_ex30, e_ex31, e_ex32, e_add, e_sub, e_mul, e_quo, e_rem, e_and, e_or, e_xor, e_shl, e_shr, e_eql, e_neq, e_lss, e_leq, e_gtr, e_geq, e_beq, e_bne, e_peq1, e_peq2, e_pne1, e_pne2, e_zeq1, e_zeq2, e_zne1, e_zne2, e_feq1, e_fne1, e_feq2, e_fne2, e_seq, e_sne, e_ta1, e_ta2, Nat.zero_add, Nat.add_zero, Bool.not_true, Bool.not_false]
    exact no k1 (.inl rfl)
  | false =>
    try simp only [e_fd, e_nck, e_pkt, e_pkf, e_gdtt, e_gdtf, e_gdft, e_gdff, e_ift, e_iff, e_not, e_ln, e_lnT, e_cp, e_cvi, e_ex20, e_ex21, e_ex30, e_ex31, e_ex32, e_add, e_sub, e_mul, e_quo, e_rem, e_and, e_or, e_xor, e_shl, e_shr, e_eql, e_neq, e_lss, e_leq, e_gtr, e_geq, e_beq, e_bne, e_peq1, e_peq2, e_pne1, e_pne2, e_zeq1, e_zeq2, e_zne1, e_zne2, e_feq1, e_fne1, e_feq2, e_fne2, e_seq, e_sne, e_ta1, e_ta2, Nat.zero_add, Nat.add_zero, Bool.not_true, Bool.not_false]
    refine ld1_r hr1 rfl ?_
    refine hb1.ln ?_
    try simp only [e_fd, e_nck, e_pkt, e_pkf, e_gdtt, e_gdtf, e_gdft, e_gdff, e_ift, e_iff, e_not, e_ln, e_lnT, e_cp, e_cvi, e_ex20, e_ex21, e_ex30, e_ex31, e_ex32, e_add, e_sub, e_mul, e_quo, e_rem, e_and, e_or, e_xor, e_shl, e_shr, e_eql, e_neq, e_lss, e_leq, e_gtr, e_geq, e_beq, e_bne, e_peq1, e_peq2, e_pne1, e_pne2, e_zeq1, e_zeq2, e_zne1, e_zne2, e_feq1, e_fne1, e_feq2, e_fne2, e_seq, e_sne, e_ta1, e_ta2, Nat.zero_add, Nat.add_zero, Bool.not_true, Bool.not_false]
    refine ld1_r hr1 rfl ?_
    refine fits_ok (by omega) ?_
    by_cases hf : ¬ FitsP buf.length off n
    · rw [decide_eq_false hf]
      simp only [Bool.not_false, e_fd, e_nck, e_pkt, e_pkf, e_gdtt, e_gdtf, e_gdft, e_gdff, e_ift, e_iff, e_not, e_ln, e_lnT, e_cp, e_cvi, e_ex20, e_ex21, e_ex30, e_ex31, e_ex32, e_add, e_sub, e_mul, e_quo, e_rem, e_and, e_or, e_xor, e_shl, e_shr, e_eql, e_neq, e_lss, e_leq, e_gtr, e_geq, e_beq, e_bne, e_peq1, e_peq2, e_pne1, e_pne2, e_zeq1, e_zeq2, e_zne1, e_zne2, e_feq1, e_fne1, e_feq2, e_fne2, e_seq, e_sne, e_ta1, e_ta2, Nat.zero_add, Nat.add_zero, Bool.not_true, Bool.not_false]
      exact no k1 (.inr hf)
    have hf : FitsP buf.length off n := Decidable.not_not.1 hf
    rw [decide_eq_true hf]
    obtain ⟨f1, f2, f3, f4⟩ := hf
    simp only [Bool.not_true, e_fd, e_nck, e_pkt, e_pkf, e_gdtt, e_gdtf, e_gdft, e_gdff, e_ift, e_iff, e_not, e_ln, e_lnT, e_cp, e_cvi, e_ex20, e_ex21, e_ex30, e_ex31, e_ex32, e_add, e_sub, e_mul, e_quo, e_rem, e_and, e_or, e_xor, e_shl, e_shr, e_eql, e_neq, e_lss, e_leq, e_gtr, e_geq, e_beq, e_bne, e_peq1, e_peq2, e_pne1, e_pne2, e_zeq1, e_zeq2, e_zne1, e_zne2, e_feq1, e_fne1, e_feq2, e_fne2, e_seq, e_sne, e_ta1, e_ta2, Nat.zero_add, Nat.add_zero, Bool.not_true, Bool.not_false]
    unfold s98_p3
    try simp only [e_fd, e_nck, e_pkt, e_pkf, e_gdtt, e_gdtf, e_gdft, e_gdff, e_ift, e_iff, e_not, e_ln, e_lnT, e_cp, e_cvi, e_ex20, e_ex21, e_ex30, e_ex31, e_ex32, e_add, e_sub, e_mul, e_quo, e_rem, e_and, e_or, e_xor, e_shl, e_shr, e_eql, e_neq, e_lss, e_leq, e_gtr, e_geq, e_beq, e_bne, e_peq1, e_peq2, e_pne1, e_pne2, e_zeq1, e_zeq2, e_zne1, e_zne2, e_feq1, e_fne1, e_feq2, e_fne2, e_seq, e_sne, e_ta1, e_ta2, Nat.zero_add, Nat.add_zero, Bool.not_true, Bool.not_false]
    unfold s98_p2 s98_p2_d
    have k2 : Kp (fun _ => False) w (drw w1) := k1.trans kp_drw
    generalize drw w1 = w2 at k2 ⊢
    have hr2 := k2.row' hr
    try simp only [e_fd, e_nck, e_pkt, e_pkf, e_gdtt, e_gdtf, e_gdft, e_gdff, e_ift, e_iff, e_not, e_ln, e_lnT, e_cp, e_cvi, e_ex20, e_ex21, e_ex30, e_ex31, e_ex32, e_add, e_sub, e_mul, e_quo, e_rem, e_and, e_or, e_xor, e_shl, e_shr, e_eql, e_neq, e_lss, e_leq, e_gtr, e_geq, e_beq, e_bne, e_peq1, e_peq2, e_pne1, e_pne2, e_zeq1, e_zeq2, e_zne1, e_zne2, e_feq1, e_fne1, e_feq2, e_fne2, e_seq, e_sne, e_ta1, e_ta2, Nat.zero_add, Nat.add_zero, Bool.not_true, Bool.not_false]
    refine ld1_r hr2 rfl ?_
    try simp only [e_fd, e_nck, e_pkt, e_pkf, e_gdtt, e_gdtf, e_gdft, e_gdff, e_ift, e_iff, e_not, e_ln, e_lnT, e_cp, e_cvi, e_ex20, e_ex21, e_ex30, e_ex31, e_ex32, e_add, e_sub, e_mul, e_quo, e_rem, e_and, e_or, e_xor, e_shl, e_shr, e_eql, e_neq, e_lss, e_leq, e_gtr, e_geq, e_beq, e_bne, e_peq1, e_peq2, e_pne1, e_pne2, e_zeq1, e_zeq2, e_zne1, e_zne2, e_feq1, e_fne1, e_feq2, e_fne2, e_seq, e_sne, e_ta1, e_ta2, Nat.zero_add, Nat.add_zero, Bool.not_true, Bool.not_false]
    refine ld1_r hr2 rfl ?_
    try simp only [e_fd, e_nck, e_pkt, e_pkf, e_gdtt, e_gdtf, e_gdft, e_gdff, e_ift, e_iff, e_not, e_ln, e_lnT, e_cp, e_cvi, e_ex20, e_ex21, e_ex30, e_ex31, e_ex32, e_add, e_sub, e_mul, e_quo, e_rem, e_and, e_or, e_xor, e_shl, e_shr, e_eql, e_neq, e_lss, e_leq, e_gtr, e_geq, e_beq, e_bne, e_peq1, e_peq2, e_pne1, e_pne2, e_zeq1, e_zeq2, e_zne1, e_zne2, e_feq1, e_fne1, e_feq2, e_fne2, e_seq, e_sne, e_ta1, e_ta2, Nat.zero_add, Nat.add_zero, Bool.not_true, Bool.not_false]
    refine ld1_r hr2 rfl ?_
    try simp only [e_fd, e_nck, e_pkt, e_pkf, e_gdtt, e_gdtf, e_gdft, e_gdff, e_ift, e_iff, e_not, e_ln, e_lnT, e_cp, e_cvi, e_ex20, e_ex21, e_ex30, e_ex31, e_ex32, e_add, e_sub, e_mul, e_quo, e_rem, e_and, e_or, e_xor, e_shl, e_shr, e_eql, e_neq, e_lss, e_leq, e_gtr, e_geq, e_beq, e_bne, e_peq1, e_peq2, e_pne1, e_pne2, e_zeq1, e_zeq2, e_zne1, e_zne2, e_feq1, e_fne1, e_feq2, e_fne2, e_seq, e_sne, e_ta1, e_ta2, Nat.zero_add, Nat.add_zero, Bool.not_true, Bool.not_false]
    refine ld1_r hr2 rfl ?_
    try simp only [e_fd, e_nck, e_pkt, e_pkf, e_gdtt, e_gdtf, e_gdft, e_gdff, e_ift, e_iff, e_not, e_ln, e_lnT, e_cp, e_cvi, e_ex20, e_ex21, e_ex30, e_ex31, e_ex32, e_add, e_sub, e_mul, e_quo, e_rem, e_and, e_or, e_xor, e_shl, e_shr, e_eql, e_neq, e_lss, e_leq, e_gtr, e_geq, e_beq, e_bne, e_peq1, e_peq2, e_pne1, e_pne2, e_zeq1, e_zeq2, e_zne1, e_zne2, e_feq1, e_fne1, e_feq2, e_fne2, e_seq, e_sne, e_ta1, e_ta2, Nat.zero_add, Nat.add_zero, Bool.not_true, Bool.not_false]
    obtain ⟨nn, hnn⟩ : ∃ nn : Nat, n = (nn : Int) := ⟨n.toNat, by omega⟩
    subst hnn
    rw [Int.toNat_natCast] at hY
    have ea : IntKind.i64.wrap (((off : Nat) : Int) + ((nn : Nat) : Int)) = ((off + nn : Nat) : Int) := by rw [wrap64_id (by omega) (by omega)]; omega
    rw [ea]
    obtain ⟨ti, hti, hsz⟩ := info5
    -- the piece, whatever the world
    have piece : ∃ v', (∀ {w3 : World} {K' : Value → World → Prop}, K' v' w3 → rs Try.prog (Instr.sliceAt 24 rv (some (I (off : Nat))) (some (I (off + nn : Nat))) (some (I (off + nn : Nat)))) K' w3) ∧ (0 < nn → ∃ x l c, v' = .slice (some x) l c) ∧ (∀ w2, Bs w2 rv buf → Bs w2 v' ((buf.drop off).take nn)) := by
      rcases hb.at_ with ⟨e1, e2⟩ | ⟨a, cap, e1, e2⟩ | ⟨b, oo, cap, e1, e2, e3, e4⟩
      · subst e2
        have h0 : off = 0 := by simpa using ho
        have h1 : nn = 0 := by simp at f4; omega
        subst h0; subst h1
        refine ⟨.slice none 0 0, fun hk => ?_, fun q => absurd q (by decide), fun w2 _ => ⟨by simp, .inl ⟨rfl, by simp⟩⟩⟩
        rw [e1]
        exact sl3_r (l := 0) (h := 0) (m := 0) Try.underlying24 hti (Nat.le_refl _) (Nat.le_refl _) (Nat.le_refl _) (by simpa using hk)
      · subst e2
        have h0 : off = 0 := by simpa using ho
        have h1 : nn = 0 := by simp at f4; omega
        subst h0; subst h1
        refine ⟨.slice (some a) 0 0, fun hk => ?_, fun q => absurd q (by decide), fun w2 _ => ⟨by simp, .inr (.inl ⟨a, 0, rfl, by simp⟩)⟩⟩
        rw [e1]
        exact sl3_r (l := 0) (h := 0) (m := 0) Try.underlying24 hti (Nat.le_refl _) (Nat.le_refl _) (Nat.zero_le _) (by simpa using hk)
      · by_cases h0 : nn = 0
        · subst h0
          refine ⟨.slice (some ⟨b, oo, none⟩) 0 0, fun hk => ?_, fun q => absurd q (by decide), fun w2 _ => ⟨by simp, .inr (.inl ⟨_, 0, rfl, by simp⟩)⟩⟩
          rw [e1]
          refine sl3_r (l := off) (h := off + 0) (m := off + 0) Try.underlying24 hti (by omega) (Nat.le_refl _) (by omega) ?_
          rw [if_pos (by omega), Nat.add_zero, Nat.sub_self]; exact hk
        · have hlen : ((buf.drop off).take nn).length = nn := by rw [List.length_take, List.length_drop]; omega
          refine ⟨sv b (oo + off) nn nn, fun hk => ?_, fun _ => ⟨_, _, _, rfl⟩, fun w2 h2 => ⟨fun x hx => hb.by_ x (List.mem_of_mem_drop (List.mem_of_mem_take hx)), .inr (.inr ⟨b, oo + off, nn, by rw [hlen], by omega, by omega, ?_⟩)⟩⟩
          · rw [e1]
            refine sl3_r (l := off) (h := off + nn) (m := off + nn) Try.underlying24 hti (by omega) (Nat.le_refl _) (by omega) ?_
            rw [if_neg (by omega), hsz, Option.map_some, add_mk, Nat.mul_one, Nat.add_sub_cancel_left]; exact hk
          · rcases h2.at_ with ⟨q1, _⟩ | ⟨a', c', q1, q2⟩ | ⟨b', o', c', q1, _, _, q4⟩
            · rw [e1] at q1; cases q1
            · rw [q2] at ho f4; simp at ho f4; omega
            · rw [e1] at q1
              cases q1
              intro j hj
              rw [List.length_map, hlen] at hj
              rw [Nat.add_assoc, q4 (off + j) (by rw [List.length_map]; omega), List.getElem?_map, List.getElem?_map, List.getElem?_take_of_lt hj, List.getElem?_drop]
    obtain ⟨v', p1, p2, p3⟩ := piece
    refine ⟨v', fun w3 _ => p1 ⟨rfl, rfl⟩, ?_⟩
    unfold s98_p1
    try simp only [e_fd, e_nck, e_pkt, e_pkf, e_gdtt, e_gdtf, e_gdft, e_gdff, e_ift, e_iff, e_not, e_ln, e_lnT, e_cp, e_cvi, e_ex20, e_ex21, e_ex30, e_ex31, e_ex32, e_add, e_sub, e_mul, e_quo, e_rem, e_and, e_or, e_xor, e_shl, e_shr, e_eql, e_neq, e_lss, e_leq, e_gtr, e_geq, e_beq, e_bne, e_peq1, e_peq2, e_pne1, e_pne2, e_zeq1, e_zeq2, e_zne1, e_zne2, e_feq1, e_fne1, e_feq2, e_fne2, e_seq, e_sne, e_ta1, e_ta2, Nat.zero_add, Nat.add_zero, Bool.not_true, Bool.not_false]
    refine ld1_r hr2 rfl ?_
    try simp only [e_fd, e_nck, e_pkt, e_pkf, e_gdtt, e_gdtf, e_gdft, e_gdff, e_ift, e_iff, e_not, e_ln, e_lnT, e_cp, e_cvi, e_ex20, e_ex21, e_ex30, e_ex31, e_ex32, e_add, e_sub, e_mul, e_quo, e_rem, e_and, e_or, e_xor, e_shl, e_shr, e_eql, e_neq, e_lss, e_leq, e_gtr, e_geq, e_beq, e_bne, e_peq1, e_peq2, e_pne1, e_pne2, e_zeq1, e_zeq2, e_zne1, e_zne2, e_feq1, e_fne1, e_feq2, e_fne2, e_seq, e_sne, e_ta1, e_ta2, Nat.zero_add, Nat.add_zero, Bool.not_true, Bool.not_false]
    rw [ea]
    refine st1_r hr2 (show 2 < 4 by decide) rfl fun w3 r3 hk3 hz3 => ?_
    exact hY rfl ⟨f1, f2, f3, f4⟩ w3 v' r3 ((k2.mono fun _ _ q => q.elim).trans hk3) (fun q => p2 (by omega)) p3
theorem boZ_some {a : Addr} {l c : Nat} (hK : K (.bool true) w) : boZ .neq (.slice (some a) l c) (.slice none 0 0) K w := hK
theorem boZ_none (hK : K (.bool false) w) : boZ .neq (.slice none 0 0) (.slice none 0 0) K w := hK
/-- a number through the reader -/
theorem read_ok {width : Int} {little : Bool} (hw : Wid width) (hr : Row w mb 28 [wv, rv, I (off : Nat), .bool f]) (hb : ∀ w', Kp (fun k => k = mb) w w' → Bs w' rv buf) (hl : buf.length ≤ 1000000000000) (ho : off ≤ buf.length)
    (hN : (f = true ∨ ¬ FitsP buf.length off width) → ∀ w', Row w' mb 28 [wv, rv, I (off : Nat), .bool true] → Kp (fun k => k = mb) w w' → K (.int .u64 0) w')
    (hY : f = false → FitsP buf.length off width → ∀ w', Row w' mb 28 [wv, rv, I (off + width.toNat : Nat), .bool false] → Kp (fun k => k = mb) w w' → K (.int .u64 (dec2 width little ((buf.drop off).take width.toNat))) w') : cl Try.prog 46 #[Pt mb 1, I width, .bool little] K w := by
  have hb0 := hb w (Kp.refl _ _)
  -- one width
  have one : ∀ {fn : FuncId} {q : IntKind} {x : List Int → Int} {k : Value → World → Prop}, (∀ w v xs K, Bs w v xs → width ≤ xs.length → (∀ w', Kp (fun _ => False) w w' → K (.int q (x xs)) w') → cl Try.prog fn #[v] K w) →
      ((f = true ∨ ¬ FitsP buf.length off width) → ∀ w', Row w' mb 28 [wv, rv, I (off : Nat), .bool true] → Kp (fun k => k = mb) w w' → k (.int q 0) w') →
      (f = false → FitsP buf.length off width → ∀ w', Row w' mb 28 [wv, rv, I (off + width.toNat : Nat), .bool false] → Kp (fun k => k = mb) w w' → k (.int q (x ((buf.drop off).take width.toNat))) w') →
      cl Try.prog 98 #[Pt mb 1, I width] (fun t5 w => boZ .neq t5 (.slice none 0 0) (fun t7 w => ifb t7 (cl Try.prog fn #[t5] (fun t9 w => k t9 w) w) (k (.int q 0) w)) w) w := by
    intro fn q x k hfn hN' hY'
    refine next_ok hr hb0 hl ho (fun h w1 r1 hk1 => boZ_none (hN' h w1 r1 hk1)) (fun h1 h2 w1 v1 r1 hk1 hv1 hbv => ?_)
    obtain ⟨a, l, c, e⟩ := hv1 (by rcases hw with rfl | rfl | rfl <;> decide)
    have hbs := hbv w1 (hb w1 hk1)
    have hlen : width ≤ ((buf.drop off).take width.toNat).length := by
      obtain ⟨_, _, _, f4⟩ := h2
      have hw2 : 2 ≤ width := by rcases hw with rfl | rfl | rfl <;> decide
      rw [List.length_take, List.length_drop]; omega
    subst e
    refine boZ_some ?_
    show cl Try.prog fn _ _ _
    refine hfn w1 _ _ _ hbs hlen fun w2 hk2 => ?_
    exact hY' h1 h2 w2 (hk2.row' r1) (hk1.then hk2 (fun _ _ q => q.elim))
  have wr : ∀ {x : Int}, 0 ≤ x → x < 18446744073709551616 → IntKind.u64.wrap x = x := fun h0 h1 => by rw [wrapu64]; omega
  have gt : ∀ j, 0 ≤ g ((buf.drop off).take width.toNat) j ∧ g ((buf.drop off).take width.toNat) j ≤ 255 := by
    intro j
    by_cases hj : j < ((buf.drop off).take width.toNat).length
    · rw [g_get hj]; exact hb0.by_ _ (List.mem_of_mem_drop (List.mem_of_mem_take (List.getElem_mem hj)))
    · unfold g; rw [List.getD_eq_getElem?_getD, List.getElem?_eq_none (by omega)]; decide
  have g0 := gt 0
  have g1 := gt 1
  have g2 := gt 2
  have g3 := gt 3
  apply c46
  unfold s46_p1
  rcases hw with rfl | rfl | rfl
  · simp only [show ((2 : Int) == 2) = true from rfl, e_fd, e_nck, e_pkt, e_pkf, e_gdtt, e_gdtf, e_gdft, e_gdff, e_ift, e_iff, e_not, e_ln, e_lnT, e_cp, e_cvi, e_ex20, e_ex21, e_ex30, e_ex31, e_ex32, e_add, e_sub, e_mul, e_quo, e_rem, e_and, e_or, e_xor, e_shl, e_shr, e_eql, e_neq, e_lss, e_leq, e_gtr, e_geq, e_beq, e_bne, e_peq1, e_peq2, e_pne1, e_pne2, e_zeq1, e_zeq2, e_zne1, e_zne2, e_feq1, e_fne1, e_feq2, e_fne2, e_seq, e_sne, e_ta1, e_ta2, Nat.zero_add, Nat.add_zero, Bool.not_true, Bool.not_false]
    cases little with
    | true =>
      try simp only [e_fd, e_nck, e_pkt, e_pkf, e_gdtt, e_gdtf, e_gdft, e_gdff, e_ift, e_iff, e_not, e_ln, e_lnT, e_cp, e_cvi, e_ex20, e_ex21, e_ex30, e_ex31, e_ex32, e_add, e_sub, e_mul, e_quo, e_rem, e_and, e_or, e_xor, e_shl, e_shr, e_eql, e_neq, e_lss, e_leq, e_gtr, e_geq, e_beq, e_bne, e_peq1, e_peq2, e_pne1, e_pne2, e_zeq1, e_zeq2, e_zne1, e_zne2, e_feq1, e_fne1, e_feq2, e_fne2, e_seq, e_sne, e_ta1, e_ta2, Nat.zero_add, Nat.add_zero, Bool.not_true, Bool.not_false]
      apply c92
      unfold s92_p1
      refine one (q := .u16) (x := le2n) (fun w v xs K h hl hK => LE16_ok h (by omega) hK) (fun h w1 r1 hk1 => ?_) (fun h1 h2 w1 r1 hk1 => ?_)
      · exact hN h w1 r1 hk1
      · simp only [e_fd, e_nck, e_pkt, e_pkf, e_gdtt, e_gdtf, e_gdft, e_gdff, e_ift, e_iff, e_not, e_ln, e_lnT, e_cp, e_cvi, e_ex20, e_ex21, e_ex30, e_ex31, e_ex32, e_add, e_sub, e_mul, e_quo, e_rem, e_and, e_or, e_xor, e_shl, e_shr, e_eql, e_neq, e_lss, e_leq, e_gtr, e_geq, e_beq, e_bne, e_peq1, e_peq2, e_pne1, e_pne2, e_zeq1, e_zeq2, e_zne1, e_zne2, e_feq1, e_fne1, e_feq2, e_fne2, e_seq, e_sne, e_ta1, e_ta2, Nat.zero_add, Nat.add_zero, Bool.not_true, Bool.not_false]
        rw [wr (by unfold le2n; omega) (by unfold le2n; omega)]
        exact hY h1 h2 w1 r1 hk1
    | false =>
      simp only [show ((2 : Int) == 2) = true from rfl, e_fd, e_nck, e_pkt, e_pkf, e_gdtt, e_gdtf, e_gdft, e_gdff, e_ift, e_iff, e_not, e_ln, e_lnT, e_cp, e_cvi, e_ex20, e_ex21, e_ex30, e_ex31, e_ex32, e_add, e_sub, e_mul, e_quo, e_rem, e_and, e_or, e_xor, e_shl, e_shr, e_eql, e_neq, e_lss, e_leq, e_gtr, e_geq, e_beq, e_bne, e_peq1, e_peq2, e_pne1, e_pne2, e_zeq1, e_zeq2, e_zne1, e_zne2, e_feq1, e_fne1, e_feq2, e_fne2, e_seq, e_sne, e_ta1, e_ta2, Nat.zero_add, Nat.add_zero, Bool.not_true, Bool.not_false]
      apply c93
      unfold s93_p1
      refine one (q := .u16) (x := be2) (fun w v xs K h hl hK => BE16_ok h (by omega) hK) (fun h w1 r1 hk1 => ?_) (fun h1 h2 w1 r1 hk1 => ?_)
      · exact hN h w1 r1 hk1
      · simp only [e_fd, e_nck, e_pkt, e_pkf, e_gdtt, e_gdtf, e_gdft, e_gdff, e_ift, e_iff, e_not, e_ln, e_lnT, e_cp, e_cvi, e_ex20, e_ex21, e_ex30, e_ex31, e_ex32, e_add, e_sub, e_mul, e_quo, e_rem, e_and, e_or, e_xor, e_shl, e_shr, e_eql, e_neq, e_lss, e_leq, e_gtr, e_geq, e_beq, e_bne, e_peq1, e_peq2, e_pne1, e_pne2, e_zeq1, e_zeq2, e_zne1, e_zne2, e_feq1, e_fne1, e_feq2, e_fne2, e_seq, e_sne, e_ta1, e_ta2, Nat.zero_add, Nat.add_zero, Bool.not_true, Bool.not_false]
        rw [wr (by unfold be2; omega) (by unfold be2; omega)]
        exact hY h1 h2 w1 r1 hk1
  · simp only [show ((4 : Int) == 2) = false from rfl, show ((4 : Int) == 4) = true from rfl, e_fd, e_nck, e_pkt, e_pkf, e_gdtt, e_gdtf, e_gdft, e_gdff, e_ift, e_iff, e_not, e_ln, e_lnT, e_cp, e_cvi, e_ex20, e_ex21, e_ex30, e_ex31, e_ex32, e_add, e_sub, e_mul, e_quo, e_rem, e_and, e_or, e_xor, e_shl, e_shr, e_eql, e_neq, e_lss, e_leq, e_gtr, e_geq, e_beq, e_bne, e_peq1, e_peq2, e_pne1, e_pne2, e_zeq1, e_zeq2, e_zne1, e_zne2, e_feq1, e_fne1, e_feq2, e_fne2, e_seq, e_sne, e_ta1, e_ta2, Nat.zero_add, Nat.add_zero, Bool.not_true, Bool.not_false]
    cases little with
    | true =>
      try simp only [e_fd, e_nck, e_pkt, e_pkf, e_gdtt, e_gdtf, e_gdft, e_gdff, e_ift, e_iff, e_not, e_ln, e_lnT, e_cp, e_cvi, e_ex20, e_ex21, e_ex30, e_ex31, e_ex32, e_add, e_sub, e_mul, e_quo, e_rem, e_and, e_or, e_xor, e_shl, e_shr, e_eql, e_neq, e_lss, e_leq, e_gtr, e_geq, e_beq, e_bne, e_peq1, e_peq2, e_pne1, e_pne2, e_zeq1, e_zeq2, e_zne1, e_zne2, e_feq1, e_fne1, e_feq2, e_fne2, e_seq, e_sne, e_ta1, e_ta2, Nat.zero_add, Nat.add_zero, Bool.not_true, Bool.not_false]
      apply c94
      unfold s94_p1
      refine one (q := .u32) (x := le4) (fun w v xs K h hl hK => LE32_ok h (by omega) hK) (fun h w1 r1 hk1 => ?_) (fun h1 h2 w1 r1 hk1 => ?_)
      · exact hN h w1 r1 hk1
      · simp only [e_fd, e_nck, e_pkt, e_pkf, e_gdtt, e_gdtf, e_gdft, e_gdff, e_ift, e_iff, e_not, e_ln, e_lnT, e_cp, e_cvi, e_ex20, e_ex21, e_ex30, e_ex31, e_ex32, e_add, e_sub, e_mul, e_quo, e_rem, e_and, e_or, e_xor, e_shl, e_shr, e_eql, e_neq, e_lss, e_leq, e_gtr, e_geq, e_beq, e_bne, e_peq1, e_peq2, e_pne1, e_pne2, e_zeq1, e_zeq2, e_zne1, e_zne2, e_feq1, e_fne1, e_feq2, e_fne2, e_seq, e_sne, e_ta1, e_ta2, Nat.zero_add, Nat.add_zero, Bool.not_true, Bool.not_false]
        rw [wr (by unfold le4; omega) (by unfold le4; omega)]
        exact hY h1 h2 w1 r1 hk1
    | false =>
      simp only [show ((4 : Int) == 4) = true from rfl, e_fd, e_nck, e_pkt, e_pkf, e_gdtt, e_gdtf, e_gdft, e_gdff, e_ift, e_iff, e_not, e_ln, e_lnT, e_cp, e_cvi, e_ex20, e_ex21, e_ex30, e_ex31, e_ex32, e_add, e_sub, e_mul, e_quo, e_rem, e_and, e_or, e_xor, e_shl, e_shr, e_eql, e_neq, e_lss, e_leq, e_gtr, e_geq, e_beq, e_bne, e_peq1, e_peq2, e_pne1, e_pne2, e_zeq1, e_zeq2, e_zne1, e_zne2, e_feq1, e_fne1, e_feq2, e_fne2, e_seq, e_sne, e_ta1, e_ta2, Nat.zero_add, Nat.add_zero, Bool.not_true, Bool.not_false]
      apply c95
      unfold s95_p1
      refine one (q := .u32) (x := be4) (fun w v xs K h hl hK => BE32_ok h (by omega) hK) (fun h w1 r1 hk1 => ?_) (fun h1 h2 w1 r1 hk1 => ?_)
      · exact hN h w1 r1 hk1
      · simp only [e_fd, e_nck, e_pkt, e_pkf, e_gdtt, e_gdtf, e_gdft, e_gdff, e_ift, e_iff, e_not, e_ln, e_lnT, e_cp, e_cvi, e_ex20, e_ex21, e_ex30, e_ex31, e_ex32, e_add, e_sub, e_mul, e_quo, e_rem, e_and, e_or, e_xor, e_shl, e_shr, e_eql, e_neq, e_lss, e_leq, e_gtr, e_geq, e_beq, e_bne, e_peq1, e_peq2, e_pne1, e_pne2, e_zeq1, e_zeq2, e_zne1, e_zne2, e_feq1, e_fne1, e_feq2, e_fne2, e_seq, e_sne, e_ta1, e_ta2, Nat.zero_add, Nat.add_zero, Bool.not_true, Bool.not_false]
        rw [wr (by unfold be4; omega) (by unfold be4; omega)]
        exact hY h1 h2 w1 r1 hk1
  · simp only [show ((8 : Int) == 2) = false from rfl, show ((8 : Int) == 4) = false from rfl, e_fd, e_nck, e_pkt, e_pkf, e_gdtt, e_gdtf, e_gdft, e_gdff, e_ift, e_iff, e_not, e_ln, e_lnT, e_cp, e_cvi, e_ex20, e_ex21, e_ex30, e_ex31, e_ex32, e_add, e_sub, e_mul, e_quo, e_rem, e_and, e_or, e_xor, e_shl, e_shr, e_eql, e_neq, e_lss, e_leq, e_gtr, e_geq, e_beq, e_bne, e_peq1, e_peq2, e_pne1, e_pne2, e_zeq1, e_zeq2, e_zne1, e_zne2, e_feq1, e_fne1, e_feq2, e_fne2, e_seq, e_sne, e_ta1, e_ta2, Nat.zero_add, Nat.add_zero, Bool.not_true, Bool.not_false]
    cases little with
    | true =>
      try simp only [e_fd, e_nck, e_pkt, e_pkf, e_gdtt, e_gdtf, e_gdft, e_gdff, e_ift, e_iff, e_not, e_ln, e_lnT, e_cp, e_cvi, e_ex20, e_ex21, e_ex30, e_ex31, e_ex32, e_add, e_sub, e_mul, e_quo, e_rem, e_and, e_or, e_xor, e_shl, e_shr, e_eql, e_neq, e_lss, e_leq, e_gtr, e_geq, e_beq, e_bne, e_peq1, e_peq2, e_pne1, e_pne2, e_zeq1, e_zeq2, e_zne1, e_zne2, e_feq1, e_fne1, e_feq2, e_fne2, e_seq, e_sne, e_ta1, e_ta2, Nat.zero_add, Nat.add_zero, Bool.not_true, Bool.not_false]
      apply c96
      unfold s96_p1
      exact one (q := .u64) (x := le8) (fun w v xs K h hl hK => LE64_ok h (by omega) hK) (fun h w1 r1 hk1 => hN h w1 r1 hk1) (fun h1 h2 w1 r1 hk1 => hY h1 h2 w1 r1 hk1)
    | false =>
      try simp only [e_fd, e_nck, e_pkt, e_pkf, e_gdtt, e_gdtf, e_gdft, e_gdff, e_ift, e_iff, e_not, e_ln, e_lnT, e_cp, e_cvi, e_ex20, e_ex21, e_ex30, e_ex31, e_ex32, e_add, e_sub, e_mul, e_quo, e_rem, e_and, e_or, e_xor, e_shl, e_shr, e_eql, e_neq, e_lss, e_leq, e_gtr, e_geq, e_beq, e_bne, e_peq1, e_peq2, e_pne1, e_pne2, e_zeq1, e_zeq2, e_zne1, e_zne2, e_feq1, e_fne1, e_feq2, e_fne2, e_seq, e_sne, e_ta1, e_ta2, Nat.zero_add, Nat.add_zero, Bool.not_true, Bool.not_false]
      apply c97
      unfold s97_p1
      exact one (q := .u64) (x := be8) (fun w v xs K h hl hK => BE64_ok h (by omega) hK) (fun h w1 r1 hk1 => hN h w1 r1 hk1) (fun h1 h2 w1 r1 hk1 => hY h1 h2 w1 r1 hk1)
theorem failed_ok (hr : Row w mb 28 [wv, rv, I (off : Nat), .bool f]) (hK : K (.bool f) w) : cl Try.prog 47 #[Pt mb 1] K w := by
  apply c47
  unfold s47_p1
  try simp only [e_fd, e_nck, e_pkt, e_pkf, e_gdtt, e_gdtf, e_gdft, e_gdff, e_ift, e_iff, e_not, e_ln, e_lnT, e_cp, e_cvi, e_ex20, e_ex21, e_ex30, e_ex31, e_ex32, e_add, e_sub, e_mul, e_quo, e_rem, e_and, e_or, e_xor, e_shl, e_shr, e_eql, e_neq, e_lss, e_leq, e_gtr, e_geq, e_beq, e_bne, e_peq1, e_peq2, e_pne1, e_pne2, e_zeq1, e_zeq2, e_zne1, e_zne2, e_feq1, e_fne1, e_feq2, e_fne2, e_seq, e_sne, e_ta1, e_ta2, Nat.zero_add, Nat.add_zero, Bool.not_true, Bool.not_false]
  exact ld1_r hr rfl hK
end
end Go.Proofs.Qxb6500898a
