import Derived.Test.Qxb6500895aD17
namespace Go.Proofs.Qxb6500895a
open Go.Sh Go.RowKit
set_option linter.unusedVariables false
set_option linter.unusedSimpArgs false

def Mo (Q : Nat → Prop) (w : World) (mb : Nat) (s : DS) : Prop := ∃ fl fr kv, Md Q w mb fl fr kv s.flu s.fr s
section
variable {Q Q' T : Nat → Prop} {w w' : World} {mb : Nat} {fl fr : List Value} {kv v : Value} {F : Nat → List Int} {G : Nat → Option (List Int)} {s s' : DS} {K : Value → World → Prop} {R : World → Prop}

theorem Mo.kp' (h : Mo Q w mb s) (hk : Kp (fun _ => False) w w') : Mo Q w' mb s := by
  obtain ⟨fl, fr, kv, h⟩ := h; exact ⟨fl, fr, kv, h.kp' hk⟩
theorem Mo.qs (h : Mo Q w mb s) : ∀ b, Q b → b < w.heap.size := by obtain ⟨fl, fr, kv, h⟩ := h; exact h.qs
theorem Mo.qm (h : Mo Q w mb s) : Q mb := by obtain ⟨fl, fr, kv, h⟩ := h; exact h.qm

theorem updN {α : Type} {H : Nat → α} {k : Nat} {x : α} : upd H k x k = x := by unfold upd; rw [if_pos rfl]
theorem updO {α : Type} {H : Nat → α} {k i : Nat} {x : α} (h : i ≠ k) : upd H k x i = H i := by unfold upd; rw [if_neg h]

/-- the end of a crash -/
theorem mcrash_end (h : Md Q w mb fl fr kv F G s) (hK : ∀ w', Md Q w' mb fl fr nilS F G { s with off := true, left := 0, keep := [], torn := 0, at_ := 0, cr := inc s.cr } → Kp (fun b => b = mb) w w' → K (I 0) w') : s43_p1 K (P mb 0) w := by
  unfold s43_p1
  simp only [e_fd, e_nck, e_pkt, e_pkf, e_gdtt, e_gdtf, e_gdft, e_gdff, e_ift, e_iff, e_not, e_ln, e_lnT, e_cp, e_cvi, e_ex20, e_ex21, e_ex30, e_ex31, e_ex32, e_add, e_sub, e_mul, e_quo, e_rem, e_and, e_or, e_xor, e_shl, e_shr, e_eql, e_neq, e_lss, e_leq, e_gtr, e_geq, e_beq, e_bne, e_peq1, e_peq2, e_pne1, e_pne2, e_zeq1, e_zeq2, e_zne1, e_zne2, e_feq1, e_fne1, e_feq2, e_fne2, e_seq, e_sne, e_ta1, e_ta2, Nat.zero_add, Nat.add_zero, Bool.not_true, Bool.not_false]
  refine h.stT 0 { s with off := true } rfl rfl rfl (by decide) rfl fun w1 h1 hk1 => ?_
  try simp only [e_fd, e_nck, e_pkt, e_pkf, e_gdtt, e_gdtf, e_gdft, e_gdff, e_ift, e_iff, e_not, e_ln, e_lnT, e_cp, e_cvi, e_ex20, e_ex21, e_ex30, e_ex31, e_ex32, e_add, e_sub, e_mul, e_quo, e_rem, e_and, e_or, e_xor, e_shl, e_shr, e_eql, e_neq, e_lss, e_leq, e_gtr, e_geq, e_beq, e_bne, e_peq1, e_peq2, e_pne1, e_pne2, e_zeq1, e_zeq2, e_zne1, e_zne2, e_feq1, e_fne1, e_feq2, e_fne2, e_seq, e_sne, e_ta1, e_ta2, Nat.zero_add, Nat.add_zero, Bool.not_true, Bool.not_false]
  refine h1.stT 1 { s with off := true, left := 0 } rfl rfl rfl (by decide) rfl fun w2 h2 hk2 => ?_
  refine bdq_r rfl ?_
  try simp only [e_fd, e_nck, e_pkt, e_pkf, e_gdtt, e_gdtf, e_gdft, e_gdff, e_ift, e_iff, e_not, e_ln, e_lnT, e_cp, e_cvi, e_ex20, e_ex21, e_ex30, e_ex31, e_ex32, e_add, e_sub, e_mul, e_quo, e_rem, e_and, e_or, e_xor, e_shl, e_shr, e_eql, e_neq, e_lss, e_leq, e_gtr, e_geq, e_beq, e_bne, e_peq1, e_peq2, e_pne1, e_pne2, e_zeq1, e_zeq2, e_zne1, e_zne2, e_feq1, e_fne1, e_feq2, e_fne2, e_seq, e_sne, e_ta1, e_ta2, Nat.zero_add, Nat.add_zero, Bool.not_true, Bool.not_false]
  have l1 := h2.l1
  have l2 := h2.l2
  have e : ∀ t : List Value, (fl ++ (fr ++ t)).take 26 ++ ([nilS, I 0, I 0] ++ (fl ++ (fr ++ t)).drop (26 + 3)) = fl ++ (fr ++ (t.take 2 ++ ([nilS, I 0, I 0] ++ t.drop 5))) := by
    intro t
    rw [List.take_append, List.take_append, List.drop_append, List.drop_append, l1, l2, List.take_of_length_le (by omega), List.take_of_length_le (by omega), List.drop_of_length_le (by omega), List.drop_of_length_le (by omega)]
    simp
  refine stn_r h2.row rfl (by simp [l1, l2, mt]) rfl fun w3 r3 hk3 hz3 => ?_
  rw [e] at r3
  have h3 : Md Q w3 mb fl fr nilS F G { s with off := true, left := 0, keep := [], torn := 0, at_ := 0 } := h2.put hk3 r3 l1 l2 h2.old h2.new ⟨vs_nil, fun b o c h0 _ => by simp at h0⟩
  try simp only [e_fd, e_nck, e_pkt, e_pkf, e_gdtt, e_gdtf, e_gdft, e_gdff, e_ift, e_iff, e_not, e_ln, e_lnT, e_cp, e_cvi, e_ex20, e_ex21, e_ex30, e_ex31, e_ex32, e_add, e_sub, e_mul, e_quo, e_rem, e_and, e_or, e_xor, e_shl, e_shr, e_eql, e_neq, e_lss, e_leq, e_gtr, e_geq, e_beq, e_bne, e_peq1, e_peq2, e_pne1, e_pne2, e_zeq1, e_zeq2, e_zne1, e_zne2, e_feq1, e_fne1, e_feq2, e_fne2, e_seq, e_sne, e_ta1, e_ta2, Nat.zero_add, Nat.add_zero, Bool.not_true, Bool.not_false]
  refine h3.ldT 8 rfl rfl ?_
  try simp only [e_fd, e_nck, e_pkt, e_pkf, e_gdtt, e_gdtf, e_gdft, e_gdff, e_ift, e_iff, e_not, e_ln, e_lnT, e_cp, e_cvi, e_ex20, e_ex21, e_ex30, e_ex31, e_ex32, e_add, e_sub, e_mul, e_quo, e_rem, e_and, e_or, e_xor, e_shl, e_shr, e_eql, e_neq, e_lss, e_leq, e_gtr, e_geq, e_beq, e_bne, e_peq1, e_peq2, e_pne1, e_pne2, e_zeq1, e_zeq2, e_zne1, e_zne2, e_feq1, e_fne1, e_feq2, e_fne2, e_seq, e_sne, e_ta1, e_ta2, Nat.zero_add, Nat.add_zero, Bool.not_true, Bool.not_false]
  refine h3.stT 8 { s with off := true, left := 0, keep := [], torn := 0, at_ := 0, cr := inc s.cr } rfl rfl rfl (by decide) rfl fun w4 h4 hk4 => ?_
  exact hK w4 h4 (((hk1.trans hk2).trans hk3).trans hk4)

theorem mcrash_ok {pv : Value} {keep : List Int} {torn at_ : Int} (h : Mo Q w mb s) (hb : Bd s.flu s.fr s) (hpv : VsP Q I w pv keep)
    (hK : ∀ w', Mo Q w' mb (crS s keep torn at_).2 → Kp (fun b => b = mb) w w' → K (I (crS s keep torn at_).1) w') : cl Try.prog 43 #[P mb 0, .agg #[pv, I torn, I at_]] K w := by
  obtain ⟨fl, fr, kv, h⟩ := h
  apply c43
  unfold s43_p12
  refine nw_r fun w1 r1 hk1 hz1 => ?_
  have r1' : Row w1 w.heap.size 32 [pv, I torn, I at_] := r1
  have h1 := h.kp' hk1
  simp only [e_fd, e_nck, e_pkt, e_pkf, e_gdtt, e_gdtf, e_gdft, e_gdff, e_ift, e_iff, e_not, e_ln, e_lnT, e_cp, e_cvi, e_ex20, e_ex21, e_ex30, e_ex31, e_ex32, e_add, e_sub, e_mul, e_quo, e_rem, e_and, e_or, e_xor, e_shl, e_shr, e_eql, e_neq, e_lss, e_leq, e_gtr, e_geq, e_beq, e_bne, e_peq1, e_peq2, e_pne1, e_pne2, e_zeq1, e_zeq2, e_zne1, e_zne2, e_feq1, e_fne1, e_feq2, e_fne2, e_seq, e_sne, e_ta1, e_ta2, Nat.zero_add, Nat.add_zero, Bool.not_true, Bool.not_false]
  refine h1.ldT 0 rfl rfl ?_
  unfold crS at hK
  cases ho : s.off with
  | true =>
    rw [if_pos ho] at hK
    simp only [e_fd, e_nck, e_pkt, e_pkf, e_gdtt, e_gdtf, e_gdft, e_gdff, e_ift, e_iff, e_not, e_ln, e_lnT, e_cp, e_cvi, e_ex20, e_ex21, e_ex30, e_ex31, e_ex32, e_add, e_sub, e_mul, e_quo, e_rem, e_and, e_or, e_xor, e_shl, e_shr, e_eql, e_neq, e_lss, e_leq, e_gtr, e_geq, e_beq, e_bne, e_peq1, e_peq2, e_pne1, e_pne2, e_zeq1, e_zeq2, e_zne1, e_zne2, e_feq1, e_fne1, e_feq2, e_fne2, e_seq, e_sne, e_ta1, e_ta2, Nat.zero_add, Nat.add_zero, Bool.not_true, Bool.not_false]
    exact hK w1 ⟨fl, fr, kv, h1⟩ hk1.none
  | false =>
    rw [if_neg (by rw [ho]; decide)] at hK
    simp only [e_fd, e_nck, e_pkt, e_pkf, e_gdtt, e_gdtf, e_gdft, e_gdff, e_ift, e_iff, e_not, e_ln, e_lnT, e_cp, e_cvi, e_ex20, e_ex21, e_ex30, e_ex31, e_ex32, e_add, e_sub, e_mul, e_quo, e_rem, e_and, e_or, e_xor, e_shl, e_shr, e_eql, e_neq, e_lss, e_leq, e_gtr, e_geq, e_beq, e_bne, e_peq1, e_peq2, e_pne1, e_pne2, e_zeq1, e_zeq2, e_zne1, e_zne2, e_feq1, e_fne1, e_feq2, e_fne2, e_seq, e_sne, e_ta1, e_ta2, Nat.zero_add, Nat.add_zero, Bool.not_true, Bool.not_false]
    refine ⟨fun n l w' => ∃ (k : Nat) (fl fr : List Value) (F : Nat → List Int) (G : Nat → Option (List Int)), k ≤ 12 ∧ n = 12 - k ∧ l = [P mb 0, P w.heap.size 0, I k] ∧ Md Q w' mb fl fr kv F G s ∧ (∀ i, i < 12 → i < k → F i = cutF s keep torn at_ i ∧ G i = none) ∧ (∀ i, i < 12 → k ≤ i → F i = s.flu i ∧ G i = s.fr i) ∧ Kp (fun b => b = mb) w w' ∧ Row w' w.heap.size 32 [pv, I torn, I at_],
      12, ⟨0, fl, fr, _, _, by omega, by omega, rfl, h1, fun i _ q => by omega, fun i _ _ => ⟨rfl, rfl⟩, hk1.none, r1'⟩, ?_⟩
    rintro n l w2 ⟨k, fl2, fr2, F, G, hk, rfl, rfl, h2, hlow, hup, hk2, r2⟩
    rw [s43_p11_Fe]
    unfold s43_p10
    simp only [e_fd, e_nck, e_pkt, e_pkf, e_gdtt, e_gdtf, e_gdft, e_gdff, e_ift, e_iff, e_not, e_ln, e_lnT, e_cp, e_cvi, e_ex20, e_ex21, e_ex30, e_ex31, e_ex32, e_add, e_sub, e_mul, e_quo, e_rem, e_and, e_or, e_xor, e_shl, e_shr, e_eql, e_neq, e_lss, e_leq, e_gtr, e_geq, e_beq, e_bne, e_peq1, e_peq2, e_pne1, e_pne2, e_zeq1, e_zeq2, e_zne1, e_zne2, e_feq1, e_fne1, e_feq2, e_fne2, e_seq, e_sne, e_ta1, e_ta2, Nat.zero_add, Nat.add_zero, Bool.not_true, Bool.not_false]
    have qm := h2.qm
    have hpv2 : VsP Q I w2 pv keep := hpv.mv hk2 (fun b _ (e : b = mb) => e ▸ qm) (fun _ q => .inl q)
    by_cases hlt : k < 12
    · have hlt' : (k : Int) < 12 := by omega
      simp only [hlt', decide_true, e_fd, e_nck, e_pkt, e_pkf, e_gdtt, e_gdtf, e_gdft, e_gdff, e_ift, e_iff, e_not, e_ln, e_lnT, e_cp, e_cvi, e_ex20, e_ex21, e_ex30, e_ex31, e_ex32, e_add, e_sub, e_mul, e_quo, e_rem, e_and, e_or, e_xor, e_shl, e_shr, e_eql, e_neq, e_lss, e_leq, e_gtr, e_geq, e_beq, e_bne, e_peq1, e_peq2, e_pne1, e_pne2, e_zeq1, e_zeq2, e_zne1, e_zne2, e_feq1, e_fne1, e_feq2, e_fne2, e_seq, e_sne, e_ta1, e_ta2, Nat.zero_add, Nat.add_zero, Bool.not_true, Bool.not_false]
      obtain ⟨hfk, hgk⟩ := hup k hlt (Nat.le_refl _)
      -- the next sector
      have next : ∀ w' fl' fr' F' G', Md Q w' mb fl' fr' kv F' G' s → F' k = cutF s keep torn at_ k → G' k = none → (∀ i, i < 12 → i ≠ k → F' i = F i ∧ G' i = G i) → Kp (fun b => b = mb) w2 w' →
          s43_p2 K (fun l' w' => ∃ n', n' < 12 - k ∧ ∃ (k : Nat) (fl fr : List Value) (F : Nat → List Int) (G : Nat → Option (List Int)), k ≤ 12 ∧ n' = 12 - k ∧ l' = [P mb 0, P w.heap.size 0, I k] ∧ Md Q w' mb fl fr kv F G s ∧ (∀ i, i < 12 → i < k → F i = cutF s keep torn at_ i ∧ G i = none) ∧ (∀ i, i < 12 → k ≤ i → F i = s.flu i ∧ G i = s.fr i) ∧ Kp (fun b => b = mb) w w' ∧ Row w' w.heap.size 32 [pv, I torn, I at_])
            (P mb 0) (P w.heap.size 0) (I k) w' := by
        intro w' fl' fr' F' G' h' e1 e2 e3 hk'
        unfold s43_p2
        simp only [e_fd, e_nck, e_pkt, e_pkf, e_gdtt, e_gdtf, e_gdft, e_gdff, e_ift, e_iff, e_not, e_ln, e_lnT, e_cp, e_cvi, e_ex20, e_ex21, e_ex30, e_ex31, e_ex32, e_add, e_sub, e_mul, e_quo, e_rem, e_and, e_or, e_xor, e_shl, e_shr, e_eql, e_neq, e_lss, e_leq, e_gtr, e_geq, e_beq, e_bne, e_peq1, e_peq2, e_pne1, e_pne2, e_zeq1, e_zeq2, e_zne1, e_zne2, e_feq1, e_fne1, e_feq2, e_fne2, e_seq, e_sne, e_ta1, e_ta2, Nat.zero_add, Nat.add_zero, Bool.not_true, Bool.not_false]
        rw [wrap64_id (by omega) (by omega)]
        refine ⟨12 - (k + 1), by omega, k + 1, fl', fr', F', G', by omega, rfl, by simp, h', fun i hi hik => ?_, fun i hi hik => ?_, hk2.trans hk', hk'.row r2 (fun (e : _ = _) => row_ne r2 h2.row (by decide) e)⟩
        · by_cases e : i = k
          · subst e; exact ⟨e1, e2⟩
          · rw [(e3 i hi e).1, (e3 i hi e).2]; exact hlow i hi (by omega)
        · rw [(e3 i hi (by omega)).1, (e3 i hi (by omega)).2]; exact hup i hi (by omega)
      -- the fresh content goes
      have clr : ∀ w' fl' F', Md Q w' mb fl' fr2 kv F' G s → F' k = cutF s keep torn at_ k → (∀ i, i < 12 → i ≠ k → F' i = F i) → Kp (fun b => b = mb) w2 w' →
          s43_p3 K (fun l' w' => ∃ n', n' < 12 - k ∧ ∃ (k : Nat) (fl fr : List Value) (F : Nat → List Int) (G : Nat → Option (List Int)), k ≤ 12 ∧ n' = 12 - k ∧ l' = [P mb 0, P w.heap.size 0, I k] ∧ Md Q w' mb fl fr kv F G s ∧ (∀ i, i < 12 → i < k → F i = cutF s keep torn at_ i ∧ G i = none) ∧ (∀ i, i < 12 → k ≤ i → F i = s.flu i ∧ G i = s.fr i) ∧ Kp (fun b => b = mb) w w' ∧ Row w' w.heap.size 32 [pv, I torn, I at_])
            (P mb 0) (P w.heap.size 0) (I k) (I k) w' := by
        intro w' fl' F' h' e1 e3 hk'
        unfold s43_p3
        simp only [e_fd, e_nck, e_pkt, e_pkf, e_gdtt, e_gdtf, e_gdft, e_gdff, e_ift, e_iff, e_not, e_ln, e_lnT, e_cp, e_cvi, e_ex20, e_ex21, e_ex30, e_ex31, e_ex32, e_add, e_sub, e_mul, e_quo, e_rem, e_and, e_or, e_xor, e_shl, e_shr, e_eql, e_neq, e_lss, e_leq, e_gtr, e_geq, e_beq, e_bne, e_peq1, e_peq2, e_pne1, e_pne2, e_zeq1, e_zeq2, e_zne1, e_zne2, e_feq1, e_fne1, e_feq2, e_fne2, e_seq, e_sne, e_ta1, e_ta2, Nat.zero_add, Nat.add_zero, Bool.not_true, Bool.not_false]
        refine ix12 hlt ?_
        refine h'.stG hlt (x := none) (.inl ⟨rfl, rfl⟩) fun w4 h4 hk4 => ?_
        exact next w4 _ _ _ _ h4 e1 updN (fun i hi e => ⟨e3 i hi e, updO e⟩) (hk'.trans hk4)
      unfold s43_p9
      simp only [e_fd, e_nck, e_pkt, e_pkf, e_gdtt, e_gdtf, e_gdft, e_gdff, e_ift, e_iff, e_not, e_ln, e_lnT, e_cp, e_cvi, e_ex20, e_ex21, e_ex30, e_ex31, e_ex32, e_add, e_sub, e_mul, e_quo, e_rem, e_and, e_or, e_xor, e_shl, e_shr, e_eql, e_neq, e_lss, e_leq, e_gtr, e_geq, e_beq, e_bne, e_peq1, e_peq2, e_pne1, e_pne2, e_zeq1, e_zeq2, e_zne1, e_zne2, e_feq1, e_fne1, e_feq2, e_fne2, e_seq, e_sne, e_ta1, e_ta2, Nat.zero_add, Nat.add_zero, Bool.not_true, Bool.not_false]
      refine ix12 hlt ?_
      refine h2.ldG hlt fun u hu hsu => ?_
      rw [hgk] at hsu
      cases hx : s.fr k with
      | none =>
        rw [hx] at hsu
        rw [hsu.nl]
        simp only [e_fd, e_nck, e_pkt, e_pkf, e_gdtt, e_gdtf, e_gdft, e_gdff, e_ift, e_iff, e_not, e_ln, e_lnT, e_cp, e_cvi, e_ex20, e_ex21, e_ex30, e_ex31, e_ex32, e_add, e_sub, e_mul, e_quo, e_rem, e_and, e_or, e_xor, e_shl, e_shr, e_eql, e_neq, e_lss, e_leq, e_gtr, e_geq, e_beq, e_bne, e_peq1, e_peq2, e_pne1, e_pne2, e_zeq1, e_zeq2, e_zne1, e_zne2, e_feq1, e_fne1, e_feq2, e_fne2, e_seq, e_sne, e_ta1, e_ta2, Nat.zero_add, Nat.add_zero, Bool.not_true, Bool.not_false]
        exact next w2 fl2 fr2 F G h2 (by rw [hfk]; unfold cutF; rw [hx]) (by rw [hgk, hx]) (fun i _ _ => ⟨rfl, rfl⟩) (Kp.refl _ _)
      | some x =>
        rw [hx] at hsu
        obtain ⟨ua, un_, uc, eu⟩ := hsu.nn
        have hxl := hb.g k x hlt hx
        have hfl := hb.f k hlt
        rw [eu]
        simp only [e_fd, e_nck, e_pkt, e_pkf, e_gdtt, e_gdtf, e_gdft, e_gdff, e_ift, e_iff, e_not, e_ln, e_lnT, e_cp, e_cvi, e_ex20, e_ex21, e_ex30, e_ex31, e_ex32, e_add, e_sub, e_mul, e_quo, e_rem, e_and, e_or, e_xor, e_shl, e_shr, e_eql, e_neq, e_lss, e_leq, e_gtr, e_geq, e_beq, e_bne, e_peq1, e_peq2, e_pne1, e_pne2, e_zeq1, e_zeq2, e_zne1, e_zne2, e_feq1, e_fne1, e_feq2, e_fne2, e_seq, e_sne, e_ta1, e_ta2, Nat.zero_add, Nat.add_zero, Bool.not_true, Bool.not_false]
        refine ld1_r r2 (v := I torn) rfl ?_
        simp only [e_fd, e_nck, e_pkt, e_pkf, e_gdtt, e_gdtf, e_gdft, e_gdff, e_ift, e_iff, e_not, e_ln, e_lnT, e_cp, e_cvi, e_ex20, e_ex21, e_ex30, e_ex31, e_ex32, e_add, e_sub, e_mul, e_quo, e_rem, e_and, e_or, e_xor, e_shl, e_shr, e_eql, e_neq, e_lss, e_leq, e_gtr, e_geq, e_beq, e_bne, e_peq1, e_peq2, e_pne1, e_pne2, e_zeq1, e_zeq2, e_zne1, e_zne2, e_feq1, e_fne1, e_feq2, e_fne2, e_seq, e_sne, e_ta1, e_ta2, Nat.zero_add, Nat.add_zero, Bool.not_true, Bool.not_false]
        unfold s43_p8
        have hcut : cutF s keep torn at_ k = if (k : Int) = torn then x.take (clampN at_) ++ (s.flu k).drop (clampN at_) else if (k : Int) ∈ keep then x else s.flu k := by unfold cutF; rw [hx]
        by_cases ht : (k : Int) = torn
        · have e : ((k : Int) == torn) = true := by simpa using ht
          simp only [e, e_fd, e_nck, e_pkt, e_pkf, e_gdtt, e_gdtf, e_gdft, e_gdff, e_ift, e_iff, e_not, e_ln, e_lnT, e_cp, e_cvi, e_ex20, e_ex21, e_ex30, e_ex31, e_ex32, e_add, e_sub, e_mul, e_quo, e_rem, e_and, e_or, e_xor, e_shl, e_shr, e_eql, e_neq, e_lss, e_leq, e_gtr, e_geq, e_beq, e_bne, e_peq1, e_peq2, e_pne1, e_pne2, e_zeq1, e_zeq2, e_zne1, e_zne2, e_feq1, e_fne1, e_feq2, e_fne2, e_seq, e_sne, e_ta1, e_ta2, Nat.zero_add, Nat.add_zero, Bool.not_true, Bool.not_false]
          rw [if_pos ht] at hcut
          unfold s43_p4 s43_p4_d
          simp only [e_fd, e_nck, e_pkt, e_pkf, e_gdtt, e_gdtf, e_gdft, e_gdff, e_ift, e_iff, e_not, e_ln, e_lnT, e_cp, e_cvi, e_ex20, e_ex21, e_ex30, e_ex31, e_ex32, e_add, e_sub, e_mul, e_quo, e_rem, e_and, e_or, e_xor, e_shl, e_shr, e_eql, e_neq, e_lss, e_leq, e_gtr, e_geq, e_beq, e_bne, e_peq1, e_peq2, e_pne1, e_pne2, e_zeq1, e_zeq2, e_zne1, e_zne2, e_feq1, e_fne1, e_feq2, e_fne2, e_seq, e_sne, e_ta1, e_ta2, Nat.zero_add, Nat.add_zero, Bool.not_true, Bool.not_false]
          have h2d := h2.kp' (w' := drw w2) kp_drw
          refine ix12 hlt ?_
          refine h2d.ldG hlt fun u3 hu3 hsu3 => ?_
          refine ix0 hlt ?_
          refine h2d.ldF hlt fun u4 hu4 hsu4 => ?_
          refine ld1_r r2.drw (v := I at_) rfl ?_
          rw [hgk, hx] at hsu3
          rw [hfk] at hsu4
          refine ix0 hlt ?_
          refine mixv_ok (Q := Q) hsu3.toVs hsu4.toVs hxl hfl h2d.qs fun w3 mv hk3 hmv => ?_
          have h3 := h2d.kp' hk3
          refine h3.stF hlt hmv fun w4 h4 hk4 => ?_
          exact clr w4 _ _ h4 (by rw [updN, hcut]) (fun i _ e => updO e) ((kp_drw.trans hk3.none).trans hk4)
        · have e : ((k : Int) == torn) = false := by simpa using ht
          simp only [e, e_fd, e_nck, e_pkt, e_pkf, e_gdtt, e_gdtf, e_gdft, e_gdff, e_ift, e_iff, e_not, e_ln, e_lnT, e_cp, e_cvi, e_ex20, e_ex21, e_ex30, e_ex31, e_ex32, e_add, e_sub, e_mul, e_quo, e_rem, e_and, e_or, e_xor, e_shl, e_shr, e_eql, e_neq, e_lss, e_leq, e_gtr, e_geq, e_beq, e_bne, e_peq1, e_peq2, e_pne1, e_pne2, e_zeq1, e_zeq2, e_zne1, e_zne2, e_feq1, e_fne1, e_feq2, e_fne2, e_seq, e_sne, e_ta1, e_ta2, Nat.zero_add, Nat.add_zero, Bool.not_true, Bool.not_false]
          rw [if_neg ht] at hcut
          unfold s43_p7
          simp only [e_fd, e_nck, e_pkt, e_pkf, e_gdtt, e_gdtf, e_gdft, e_gdff, e_ift, e_iff, e_not, e_ln, e_lnT, e_cp, e_cvi, e_ex20, e_ex21, e_ex30, e_ex31, e_ex32, e_add, e_sub, e_mul, e_quo, e_rem, e_and, e_or, e_xor, e_shl, e_shr, e_eql, e_neq, e_lss, e_leq, e_gtr, e_geq, e_beq, e_bne, e_peq1, e_peq2, e_pne1, e_pne2, e_zeq1, e_zeq2, e_zne1, e_zne2, e_feq1, e_fne1, e_feq2, e_fne2, e_seq, e_sne, e_ta1, e_ta2, Nat.zero_add, Nat.add_zero, Bool.not_true, Bool.not_false]
          refine ld1_r r2 (v := pv) rfl ?_
          refine has_ok hpv2.1 ?_
          unfold s43_p6
          by_cases hin : (k : Int) ∈ keep
          · rw [decide_eq_true hin]
            simp only [e_fd, e_nck, e_pkt, e_pkf, e_gdtt, e_gdtf, e_gdft, e_gdff, e_ift, e_iff, e_not, e_ln, e_lnT, e_cp, e_cvi, e_ex20, e_ex21, e_ex30, e_ex31, e_ex32, e_add, e_sub, e_mul, e_quo, e_rem, e_and, e_or, e_xor, e_shl, e_shr, e_eql, e_neq, e_lss, e_leq, e_gtr, e_geq, e_beq, e_bne, e_peq1, e_peq2, e_pne1, e_pne2, e_zeq1, e_zeq2, e_zne1, e_zne2, e_feq1, e_fne1, e_feq2, e_fne2, e_seq, e_sne, e_ta1, e_ta2, Nat.zero_add, Nat.add_zero, Bool.not_true, Bool.not_false]
            rw [if_pos hin] at hcut
            unfold s43_p5 s43_p5_d
            simp only [e_fd, e_nck, e_pkt, e_pkf, e_gdtt, e_gdtf, e_gdft, e_gdff, e_ift, e_iff, e_not, e_ln, e_lnT, e_cp, e_cvi, e_ex20, e_ex21, e_ex30, e_ex31, e_ex32, e_add, e_sub, e_mul, e_quo, e_rem, e_and, e_or, e_xor, e_shl, e_shr, e_eql, e_neq, e_lss, e_leq, e_gtr, e_geq, e_beq, e_bne, e_peq1, e_peq2, e_pne1, e_pne2, e_zeq1, e_zeq2, e_zne1, e_zne2, e_feq1, e_fne1, e_feq2, e_fne2, e_seq, e_sne, e_ta1, e_ta2, Nat.zero_add, Nat.add_zero, Bool.not_true, Bool.not_false]
            have h2d := h2.kp' (w' := drw w2) kp_drw
            refine ix12 hlt ?_
            refine h2d.ldG hlt fun u3 hu3 hsu3 => ?_
            rw [hgk, hx] at hsu3
            refine ix0 hlt ?_
            refine h2d.stF hlt hsu3 fun w4 h4 hk4 => ?_
            exact clr w4 _ _ h4 (by rw [updN, hcut]) (fun i _ e => updO e) (kp_drw.trans hk4)
          · rw [decide_eq_false hin]
            simp only [e_fd, e_nck, e_pkt, e_pkf, e_gdtt, e_gdtf, e_gdft, e_gdff, e_ift, e_iff, e_not, e_ln, e_lnT, e_cp, e_cvi, e_ex20, e_ex21, e_ex30, e_ex31, e_ex32, e_add, e_sub, e_mul, e_quo, e_rem, e_and, e_or, e_xor, e_shl, e_shr, e_eql, e_neq, e_lss, e_leq, e_gtr, e_geq, e_beq, e_bne, e_peq1, e_peq2, e_pne1, e_pne2, e_zeq1, e_zeq2, e_zne1, e_zne2, e_feq1, e_fne1, e_feq2, e_fne2, e_seq, e_sne, e_ta1, e_ta2, Nat.zero_add, Nat.add_zero, Bool.not_true, Bool.not_false]
            rw [if_neg hin] at hcut
            exact clr w2 fl2 F h2 (by rw [hfk, hcut]) (fun _ _ _ => rfl) (Kp.refl _ _)
    · have hlt' : ¬ (k : Int) < 12 := by omega
      simp only [hlt', decide_false, e_fd, e_nck, e_pkt, e_pkf, e_gdtt, e_gdtf, e_gdft, e_gdff, e_ift, e_iff, e_not, e_ln, e_lnT, e_cp, e_cvi, e_ex20, e_ex21, e_ex30, e_ex31, e_ex32, e_add, e_sub, e_mul, e_quo, e_rem, e_and, e_or, e_xor, e_shl, e_shr, e_eql, e_neq, e_lss, e_leq, e_gtr, e_geq, e_beq, e_bne, e_peq1, e_peq2, e_pne1, e_pne2, e_zeq1, e_zeq2, e_zne1, e_zne2, e_feq1, e_fne1, e_feq2, e_fne2, e_seq, e_sne, e_ta1, e_ta2, Nat.zero_add, Nat.add_zero, Bool.not_true, Bool.not_false]
      have h2' : Md Q w2 mb fl2 fr2 kv (cutF s keep torn at_) (fun _ => none) s := h2.congr (fun i hi => (hlow i hi (by omega)).1) (fun i hi => (hlow i hi (by omega)).2)
      refine mcrash_end h2' fun w3 h3 hk3 => ?_
      exact hK w3 ⟨fl2, fr2, nilS, ⟨h3.row, h3.l1, h3.l2, h3.old, h3.new, h3.kvp, h3.qm, h3.qs⟩⟩ (hk2.trans hk3)

theorem count_ok (h : Mo Q w mb s) (hb : Bd s.flu s.fr s) (ho : s.off = false) (hK : ∀ w', Mo Q w' mb (burnS s).2 → Kp (fun b => b = mb) w w' → K (I (if (burnS s).1 = true then 4 else 0)) w') : cl Try.prog 64 #[P mb 0] K w := by
  obtain ⟨fl, fr, kv, h⟩ := h
  have l0 := hb.l0
  have l1 := hb.l1
  apply c64
  unfold s64_p1
  simp only [e_fd, e_nck, e_pkt, e_pkf, e_gdtt, e_gdtf, e_gdft, e_gdff, e_ift, e_iff, e_not, e_ln, e_lnT, e_cp, e_cvi, e_ex20, e_ex21, e_ex30, e_ex31, e_ex32, e_add, e_sub, e_mul, e_quo, e_rem, e_and, e_or, e_xor, e_shl, e_shr, e_eql, e_neq, e_lss, e_leq, e_gtr, e_geq, e_beq, e_bne, e_peq1, e_peq2, e_pne1, e_pne2, e_zeq1, e_zeq2, e_zne1, e_zne2, e_feq1, e_fne1, e_feq2, e_fne2, e_seq, e_sne, e_ta1, e_ta2, Nat.zero_add, Nat.add_zero, Bool.not_true, Bool.not_false]
  refine h.ldT 1 rfl rfl ?_
  simp only [e_fd, e_nck, e_pkt, e_pkf, e_gdtt, e_gdtf, e_gdft, e_gdff, e_ift, e_iff, e_not, e_ln, e_lnT, e_cp, e_cvi, e_ex20, e_ex21, e_ex30, e_ex31, e_ex32, e_add, e_sub, e_mul, e_quo, e_rem, e_and, e_or, e_xor, e_shl, e_shr, e_eql, e_neq, e_lss, e_leq, e_gtr, e_geq, e_beq, e_bne, e_peq1, e_peq2, e_pne1, e_pne2, e_zeq1, e_zeq2, e_zne1, e_zne2, e_feq1, e_fne1, e_feq2, e_fne2, e_seq, e_sne, e_ta1, e_ta2, Nat.zero_add, Nat.add_zero, Bool.not_true, Bool.not_false]
  unfold burnS at hK
  by_cases h0 : s.left = 0
  · have e : (s.left == 0) = true := by simpa using h0
    simp only [e, e_fd, e_nck, e_pkt, e_pkf, e_gdtt, e_gdtf, e_gdft, e_gdff, e_ift, e_iff, e_not, e_ln, e_lnT, e_cp, e_cvi, e_ex20, e_ex21, e_ex30, e_ex31, e_ex32, e_add, e_sub, e_mul, e_quo, e_rem, e_and, e_or, e_xor, e_shl, e_shr, e_eql, e_neq, e_lss, e_leq, e_gtr, e_geq, e_beq, e_bne, e_peq1, e_peq2, e_pne1, e_pne2, e_zeq1, e_zeq2, e_zne1, e_zne2, e_feq1, e_fne1, e_feq2, e_fne2, e_seq, e_sne, e_ta1, e_ta2, Nat.zero_add, Nat.add_zero, Bool.not_true, Bool.not_false]
    rw [if_pos h0] at hK
    exact hK w ⟨fl, fr, kv, h⟩ (Kp.refl _ _)
  · have e : (s.left == 0) = false := by simpa using h0
    simp only [e, e_fd, e_nck, e_pkt, e_pkf, e_gdtt, e_gdtf, e_gdft, e_gdff, e_ift, e_iff, e_not, e_ln, e_lnT, e_cp, e_cvi, e_ex20, e_ex21, e_ex30, e_ex31, e_ex32, e_add, e_sub, e_mul, e_quo, e_rem, e_and, e_or, e_xor, e_shl, e_shr, e_eql, e_neq, e_lss, e_leq, e_gtr, e_geq, e_beq, e_bne, e_peq1, e_peq2, e_pne1, e_pne2, e_zeq1, e_zeq2, e_zne1, e_zne2, e_feq1, e_fne1, e_feq2, e_fne2, e_seq, e_sne, e_ta1, e_ta2, Nat.zero_add, Nat.add_zero, Bool.not_true, Bool.not_false]
    rw [if_neg h0] at hK
    refine h.ldT 1 rfl rfl ?_
    simp only [e_fd, e_nck, e_pkt, e_pkf, e_gdtt, e_gdtf, e_gdft, e_gdff, e_ift, e_iff, e_not, e_ln, e_lnT, e_cp, e_cvi, e_ex20, e_ex21, e_ex30, e_ex31, e_ex32, e_add, e_sub, e_mul, e_quo, e_rem, e_and, e_or, e_xor, e_shl, e_shr, e_eql, e_neq, e_lss, e_leq, e_gtr, e_geq, e_beq, e_bne, e_peq1, e_peq2, e_pne1, e_pne2, e_zeq1, e_zeq2, e_zne1, e_zne2, e_feq1, e_fne1, e_feq2, e_fne2, e_seq, e_sne, e_ta1, e_ta2, Nat.zero_add, Nat.add_zero, Bool.not_true, Bool.not_false]
    rw [wrap64_id (by omega) (by omega)]
    refine h.stT 1 { s with left := s.left - 1 } rfl rfl rfl (by decide) rfl fun w1 h1 hk1 => ?_
    try simp only [e_fd, e_nck, e_pkt, e_pkf, e_gdtt, e_gdtf, e_gdft, e_gdff, e_ift, e_iff, e_not, e_ln, e_lnT, e_cp, e_cvi, e_ex20, e_ex21, e_ex30, e_ex31, e_ex32, e_add, e_sub, e_mul, e_quo, e_rem, e_and, e_or, e_xor, e_shl, e_shr, e_eql, e_neq, e_lss, e_leq, e_gtr, e_geq, e_beq, e_bne, e_peq1, e_peq2, e_pne1, e_pne2, e_zeq1, e_zeq2, e_zne1, e_zne2, e_feq1, e_fne1, e_feq2, e_fne2, e_seq, e_sne, e_ta1, e_ta2, Nat.zero_add, Nat.add_zero, Bool.not_true, Bool.not_false]
    refine h1.ldT 1 rfl rfl ?_
    simp only [e_fd, e_nck, e_pkt, e_pkf, e_gdtt, e_gdtf, e_gdft, e_gdff, e_ift, e_iff, e_not, e_ln, e_lnT, e_cp, e_cvi, e_ex20, e_ex21, e_ex30, e_ex31, e_ex32, e_add, e_sub, e_mul, e_quo, e_rem, e_and, e_or, e_xor, e_shl, e_shr, e_eql, e_neq, e_lss, e_leq, e_gtr, e_geq, e_beq, e_bne, e_peq1, e_peq2, e_pne1, e_pne2, e_zeq1, e_zeq2, e_zne1, e_zne2, e_feq1, e_fne1, e_feq2, e_fne2, e_seq, e_sne, e_ta1, e_ta2, Nat.zero_add, Nat.add_zero, Bool.not_true, Bool.not_false]
    by_cases h2 : 0 < s.left - 1
    · simp only [h2, decide_true, e_fd, e_nck, e_pkt, e_pkf, e_gdtt, e_gdtf, e_gdft, e_gdff, e_ift, e_iff, e_not, e_ln, e_lnT, e_cp, e_cvi, e_ex20, e_ex21, e_ex30, e_ex31, e_ex32, e_add, e_sub, e_mul, e_quo, e_rem, e_and, e_or, e_xor, e_shl, e_shr, e_eql, e_neq, e_lss, e_leq, e_gtr, e_geq, e_beq, e_bne, e_peq1, e_peq2, e_pne1, e_pne2, e_zeq1, e_zeq2, e_zne1, e_zne2, e_feq1, e_fne1, e_feq2, e_fne2, e_seq, e_sne, e_ta1, e_ta2, Nat.zero_add, Nat.add_zero, Bool.not_true, Bool.not_false]
      rw [if_pos h2] at hK
      exact hK w1 ⟨fl, fr, kv, h1⟩ hk1
    · simp only [h2, decide_false, e_fd, e_nck, e_pkt, e_pkf, e_gdtt, e_gdtf, e_gdft, e_gdff, e_ift, e_iff, e_not, e_ln, e_lnT, e_cp, e_cvi, e_ex20, e_ex21, e_ex30, e_ex31, e_ex32, e_add, e_sub, e_mul, e_quo, e_rem, e_and, e_or, e_xor, e_shl, e_shr, e_eql, e_neq, e_lss, e_leq, e_gtr, e_geq, e_beq, e_bne, e_peq1, e_peq2, e_pne1, e_pne2, e_zeq1, e_zeq2, e_zne1, e_zne2, e_feq1, e_fne1, e_feq2, e_fne2, e_seq, e_sne, e_ta1, e_ta2, Nat.zero_add, Nat.add_zero, Bool.not_true, Bool.not_false]
      rw [if_neg h2] at hK
      have hz : s.left - 1 = 0 := by omega
      refine ldn_r h1.row (show 26 + 3 ≤ _ by simp [h1.l1, h1.l2, mt]) ?_
      have e3 : ((fl ++ (fr ++ mt kv { s with left := s.left - 1 })).drop 26).take 3 = [kv, I s.torn, I s.at_] := by
        rw [List.drop_append, List.drop_append, h1.l1, h1.l2, List.drop_of_length_le (by rw [h1.l1]; omega), List.drop_of_length_le (by rw [h1.l2]; omega)]
        rfl
      rw [e3]
      refine mcrash_ok (s := { s with left := s.left - 1 }) (pv := kv) (keep := s.keep) (torn := s.torn) (at_ := s.at_) ⟨fl, fr, kv, h1⟩ ⟨hb.f, hb.g, hb.k, show 0 ≤ s.left - 1 by omega, show s.left - 1 ≤ 9223372036854775807 by omega⟩ h1.kvp fun w2 h2 hk2 => ?_
      have hc : crS { s with left := s.left - 1 } s.keep s.torn s.at_ = (0, cutS { s with left := s.left - 1 } s.keep s.torn s.at_) := by
        unfold crS
        rw [if_neg (by show ¬ s.off = true; rw [ho]; decide)]
      rw [hc] at h2
      exact hK w2 h2 (hk1.trans hk2)

theorem mwrite_ok {i : Int} {x : List Int} (h : Mo Q w mb s) (hb : Bd s.flu s.fr s) (hv : Vs U8 w v x) (hl : x.length ≤ 65536) (hvn : ∀ b o c, 0 < x.length → v = .slice (some ⟨b, o, none⟩) x.length c → b ≠ mb)
    (hK : ∀ w', Mo Q w' mb (wrS s i x).2 → Kp (fun b => b = mb) w w' → K (I (wrS s i x).1) w') : cl Try.prog 40 #[P mb 0, I i, v] K w := by
  obtain ⟨fl, fr, kv, h⟩ := h
  apply c40
  unfold s40_p3
  refine hv.ln ?_
  refine refusal_ok h ?_
  simp only [e_fd, e_nck, e_pkt, e_pkf, e_gdtt, e_gdtf, e_gdft, e_gdff, e_ift, e_iff, e_not, e_ln, e_lnT, e_cp, e_cvi, e_ex20, e_ex21, e_ex30, e_ex31, e_ex32, e_add, e_sub, e_mul, e_quo, e_rem, e_and, e_or, e_xor, e_shl, e_shr, e_eql, e_neq, e_lss, e_leq, e_gtr, e_geq, e_beq, e_bne, e_peq1, e_peq2, e_pne1, e_pne2, e_zeq1, e_zeq2, e_zne1, e_zne2, e_feq1, e_fne1, e_feq2, e_fne2, e_seq, e_sne, e_ta1, e_ta2, Nat.zero_add, Nat.add_zero, Bool.not_true, Bool.not_false]
  unfold wrS at hK
  by_cases hc : chkC s i x.length = 0
  · have e : (chkC s i x.length != 0) = false := by simpa using hc
    simp only [e, e_fd, e_nck, e_pkt, e_pkf, e_gdtt, e_gdtf, e_gdft, e_gdff, e_ift, e_iff, e_not, e_ln, e_lnT, e_cp, e_cvi, e_ex20, e_ex21, e_ex30, e_ex31, e_ex32, e_add, e_sub, e_mul, e_quo, e_rem, e_and, e_or, e_xor, e_shl, e_shr, e_eql, e_neq, e_lss, e_leq, e_gtr, e_geq, e_beq, e_bne, e_peq1, e_peq2, e_pne1, e_pne2, e_zeq1, e_zeq2, e_zne1, e_zne2, e_feq1, e_fne1, e_feq2, e_fne2, e_seq, e_sne, e_ta1, e_ta2, Nat.zero_add, Nat.add_zero, Bool.not_true, Bool.not_false]
    rw [if_neg (by simpa using hc)] at hK
    obtain ⟨ho, hi0, hi1, hxl⟩ := chk_pos hc
    obtain ⟨k, rfl⟩ : ∃ k : Nat, i = (k : Int) := ⟨i.toNat, by omega⟩
    have ek : ((k : Int)).toNat = k := by omega
    rw [ek] at hK
    unfold s40_p2 s40_p2_d
    simp only [e_fd, e_nck, e_pkt, e_pkf, e_gdtt, e_gdtf, e_gdft, e_gdff, e_ift, e_iff, e_not, e_ln, e_lnT, e_cp, e_cvi, e_ex20, e_ex21, e_ex30, e_ex31, e_ex32, e_add, e_sub, e_mul, e_quo, e_rem, e_and, e_or, e_xor, e_shl, e_shr, e_eql, e_neq, e_lss, e_leq, e_gtr, e_geq, e_beq, e_bne, e_peq1, e_peq2, e_pne1, e_pne2, e_zeq1, e_zeq2, e_zne1, e_zne2, e_feq1, e_fne1, e_feq2, e_fne2, e_seq, e_sne, e_ta1, e_ta2, Nat.zero_add, Nat.add_zero, Bool.not_true, Bool.not_false]
    have hd := h.kp' (w' := drw w) kp_drw
    refine ix12 (by omega) ?_
    refine ap_copy (hv.kp' (w' := drw w) kp_drw) (by omega) (by omega) fun w1 v1 b cap junk ev hcap hbf r1 hj hk1 => ?_
    have h1 := hd.kp' hk1
    have hx1 : SecV Q w1 v1 (some x) := .inr ⟨x, b, cap, junk, rfl, ev, hcap, by omega, r1, fun q => by have := hd.qs b q; omega⟩
    refine h1.stG (by omega) hx1 fun w2 h2 hk2 => ?_
    unfold s40_p1
    simp only [e_fd, e_nck, e_pkt, e_pkf, e_gdtt, e_gdtf, e_gdft, e_gdff, e_ift, e_iff, e_not, e_ln, e_lnT, e_cp, e_cvi, e_ex20, e_ex21, e_ex30, e_ex31, e_ex32, e_add, e_sub, e_mul, e_quo, e_rem, e_and, e_or, e_xor, e_shl, e_shr, e_eql, e_neq, e_lss, e_leq, e_gtr, e_geq, e_beq, e_bne, e_peq1, e_peq2, e_pne1, e_pne2, e_zeq1, e_zeq2, e_zne1, e_zne2, e_feq1, e_fne1, e_feq2, e_fne2, e_seq, e_sne, e_ta1, e_ta2, Nat.zero_add, Nat.add_zero, Bool.not_true, Bool.not_false]
    refine h2.ldT 6 rfl rfl ?_
    try simp only [e_fd, e_nck, e_pkt, e_pkf, e_gdtt, e_gdtf, e_gdft, e_gdff, e_ift, e_iff, e_not, e_ln, e_lnT, e_cp, e_cvi, e_ex20, e_ex21, e_ex30, e_ex31, e_ex32, e_add, e_sub, e_mul, e_quo, e_rem, e_and, e_or, e_xor, e_shl, e_shr, e_eql, e_neq, e_lss, e_leq, e_gtr, e_geq, e_beq, e_bne, e_peq1, e_peq2, e_pne1, e_pne2, e_zeq1, e_zeq2, e_zne1, e_zne2, e_feq1, e_fne1, e_feq2, e_fne2, e_seq, e_sne, e_ta1, e_ta2, Nat.zero_add, Nat.add_zero, Bool.not_true, Bool.not_false]
    refine h2.stT 6 { s with wr := inc s.wr } rfl rfl rfl (by decide) rfl fun w3 h3 hk3 => ?_
    refine count_ok (s := { s with fr := upd s.fr k (some x), wr := inc s.wr }) ⟨_, _, kv, ⟨h3.row, h3.l1, h3.l2, h3.old, h3.new, h3.kvp, h3.qm, h3.qs⟩⟩ ⟨hb.f, fun j y hj hy => ?_, hb.k, hb.l0, hb.l1⟩ ho fun w4 h4 hk4 => ?_
    · have hy' : upd s.fr k (some x) j = some y := hy
      by_cases e : j = k
      · subst e; rw [updN] at hy'; cases hy'; omega
      · rw [updO e] at hy'; exact hb.g j y hj hy'
    · exact hK w4 h4 ((((kp_drw.trans hk1.none).trans hk2).trans hk3).trans hk4)
  · have e : (chkC s i x.length != 0) = true := by simpa using hc
    simp only [e, e_fd, e_nck, e_pkt, e_pkf, e_gdtt, e_gdtf, e_gdft, e_gdff, e_ift, e_iff, e_not, e_ln, e_lnT, e_cp, e_cvi, e_ex20, e_ex21, e_ex30, e_ex31, e_ex32, e_add, e_sub, e_mul, e_quo, e_rem, e_and, e_or, e_xor, e_shl, e_shr, e_eql, e_neq, e_lss, e_leq, e_gtr, e_geq, e_beq, e_bne, e_peq1, e_peq2, e_pne1, e_pne2, e_zeq1, e_zeq2, e_zne1, e_zne2, e_feq1, e_fne1, e_feq2, e_fne2, e_seq, e_sne, e_ta1, e_ta2, Nat.zero_add, Nat.add_zero, Bool.not_true, Bool.not_false]
    rw [if_pos hc] at hK
    exact hK w ⟨fl, fr, kv, h⟩ (Kp.refl _ _)

theorem mread_ok {i n : Int} (h : Mo Q w mb s)
    (hK : ∀ w' u, Mo Q w' mb (rdS s i n) → Kp (fun b => b = mb) w w' → (chkC s i n = 0 → SecV Q w' u (some (nowS s i.toNat))) → K (.tuple #[u, I (chkC s i n)]) w') : cl Try.prog 41 #[P mb 0, I i, I n] K w := by
  obtain ⟨fl, fr, kv, h⟩ := h
  apply c41
  unfold s41_p1
  refine refusal_ok h ?_
  simp only [e_fd, e_nck, e_pkt, e_pkf, e_gdtt, e_gdtf, e_gdft, e_gdff, e_ift, e_iff, e_not, e_ln, e_lnT, e_cp, e_cvi, e_ex20, e_ex21, e_ex30, e_ex31, e_ex32, e_add, e_sub, e_mul, e_quo, e_rem, e_and, e_or, e_xor, e_shl, e_shr, e_eql, e_neq, e_lss, e_leq, e_gtr, e_geq, e_beq, e_bne, e_peq1, e_peq2, e_pne1, e_pne2, e_zeq1, e_zeq2, e_zne1, e_zne2, e_feq1, e_fne1, e_feq2, e_fne2, e_seq, e_sne, e_ta1, e_ta2, Nat.zero_add, Nat.add_zero, Bool.not_true, Bool.not_false]
  unfold rdS at hK
  by_cases hc : chkC s i n = 0
  · have e : (chkC s i n != 0) = false := by simpa using hc
    simp only [e, e_fd, e_nck, e_pkt, e_pkf, e_gdtt, e_gdtf, e_gdft, e_gdff, e_ift, e_iff, e_not, e_ln, e_lnT, e_cp, e_cvi, e_ex20, e_ex21, e_ex30, e_ex31, e_ex32, e_add, e_sub, e_mul, e_quo, e_rem, e_and, e_or, e_xor, e_shl, e_shr, e_eql, e_neq, e_lss, e_leq, e_gtr, e_geq, e_beq, e_bne, e_peq1, e_peq2, e_pne1, e_pne2, e_zeq1, e_zeq2, e_zne1, e_zne2, e_feq1, e_fne1, e_feq2, e_fne2, e_seq, e_sne, e_ta1, e_ta2, Nat.zero_add, Nat.add_zero, Bool.not_true, Bool.not_false]
    rw [if_neg (by simpa using hc), hc] at hK
    obtain ⟨ho, hi0, hi1, hxl⟩ := chk_pos hc
    obtain ⟨k, rfl⟩ : ∃ k : Nat, i = (k : Int) := ⟨i.toNat, by omega⟩
    have ek : ((k : Int)).toNat = k := by omega
    rw [ek] at hK
    refine h.ldT 5 rfl rfl ?_
    try simp only [e_fd, e_nck, e_pkt, e_pkf, e_gdtt, e_gdtf, e_gdft, e_gdff, e_ift, e_iff, e_not, e_ln, e_lnT, e_cp, e_cvi, e_ex20, e_ex21, e_ex30, e_ex31, e_ex32, e_add, e_sub, e_mul, e_quo, e_rem, e_and, e_or, e_xor, e_shl, e_shr, e_eql, e_neq, e_lss, e_leq, e_gtr, e_geq, e_beq, e_bne, e_peq1, e_peq2, e_pne1, e_pne2, e_zeq1, e_zeq2, e_zne1, e_zne2, e_feq1, e_fne1, e_feq2, e_fne2, e_seq, e_sne, e_ta1, e_ta2, Nat.zero_add, Nat.add_zero, Bool.not_true, Bool.not_false]
    refine h.stT 5 { s with rd := inc s.rd } rfl rfl rfl (by decide) rfl fun w1 h1 hk1 => ?_
    refine now_ok h1 (by omega) fun u hu => ?_
    exact hK w1 u ⟨fl, fr, kv, h1⟩ hk1 (fun _ => hu)
  · have e : (chkC s i n != 0) = true := by simpa using hc
    simp only [e, e_fd, e_nck, e_pkt, e_pkf, e_gdtt, e_gdtf, e_gdft, e_gdff, e_ift, e_iff, e_not, e_ln, e_lnT, e_cp, e_cvi, e_ex20, e_ex21, e_ex30, e_ex31, e_ex32, e_add, e_sub, e_mul, e_quo, e_rem, e_and, e_or, e_xor, e_shl, e_shr, e_eql, e_neq, e_lss, e_leq, e_gtr, e_geq, e_beq, e_bne, e_peq1, e_peq2, e_pne1, e_pne2, e_zeq1, e_zeq2, e_zne1, e_zne2, e_feq1, e_fne1, e_feq2, e_fne2, e_seq, e_sne, e_ta1, e_ta2, Nat.zero_add, Nat.add_zero, Bool.not_true, Bool.not_false]
    rw [if_pos hc] at hK
    exact hK w nilS ⟨fl, fr, kv, h⟩ (Kp.refl _ _) (fun q => absurd q hc)

theorem mflush_ok (h : Mo Q w mb s) (hb : Bd s.flu s.fr s) (hK : ∀ w', Mo Q w' mb (flS s).2 → Kp (fun b => b = mb) w w' → K (I (flS s).1) w') : cl Try.prog 42 #[P mb 0] K w := by
  obtain ⟨fl, fr, kv, h⟩ := h
  apply c42
  unfold s42_p9
  simp only [e_fd, e_nck, e_pkt, e_pkf, e_gdtt, e_gdtf, e_gdft, e_gdff, e_ift, e_iff, e_not, e_ln, e_lnT, e_cp, e_cvi, e_ex20, e_ex21, e_ex30, e_ex31, e_ex32, e_add, e_sub, e_mul, e_quo, e_rem, e_and, e_or, e_xor, e_shl, e_shr, e_eql, e_neq, e_lss, e_leq, e_gtr, e_geq, e_beq, e_bne, e_peq1, e_peq2, e_pne1, e_pne2, e_zeq1, e_zeq2, e_zne1, e_zne2, e_feq1, e_fne1, e_feq2, e_fne2, e_seq, e_sne, e_ta1, e_ta2, Nat.zero_add, Nat.add_zero, Bool.not_true, Bool.not_false]
  refine h.ldT 0 rfl rfl ?_
  unfold flS at hK
  by_cases ho1 : s.off = true
  · rw [if_pos ho1] at hK
    rw [ho1]
    simp only [e_fd, e_nck, e_pkt, e_pkf, e_gdtt, e_gdtf, e_gdft, e_gdff, e_ift, e_iff, e_not, e_ln, e_lnT, e_cp, e_cvi, e_ex20, e_ex21, e_ex30, e_ex31, e_ex32, e_add, e_sub, e_mul, e_quo, e_rem, e_and, e_or, e_xor, e_shl, e_shr, e_eql, e_neq, e_lss, e_leq, e_gtr, e_geq, e_beq, e_bne, e_peq1, e_peq2, e_pne1, e_pne2, e_zeq1, e_zeq2, e_zne1, e_zne2, e_feq1, e_fne1, e_feq2, e_fne2, e_seq, e_sne, e_ta1, e_ta2, Nat.zero_add, Nat.add_zero, Bool.not_true, Bool.not_false]
    exact hK w ⟨fl, fr, kv, h⟩ (Kp.refl _ _)
  · have ho : s.off = false := by simpa using ho1
    rw [if_neg ho1] at hK
    rw [ho]
    simp only [e_fd, e_nck, e_pkt, e_pkf, e_gdtt, e_gdtf, e_gdft, e_gdff, e_ift, e_iff, e_not, e_ln, e_lnT, e_cp, e_cvi, e_ex20, e_ex21, e_ex30, e_ex31, e_ex32, e_add, e_sub, e_mul, e_quo, e_rem, e_and, e_or, e_xor, e_shl, e_shr, e_eql, e_neq, e_lss, e_leq, e_gtr, e_geq, e_beq, e_bne, e_peq1, e_peq2, e_pne1, e_pne2, e_zeq1, e_zeq2, e_zne1, e_zne2, e_feq1, e_fne1, e_feq2, e_fne2, e_seq, e_sne, e_ta1, e_ta2, Nat.zero_add, Nat.add_zero, Bool.not_true, Bool.not_false]
    refine h.ldT 7 rfl rfl ?_
    try simp only [e_fd, e_nck, e_pkt, e_pkf, e_gdtt, e_gdtf, e_gdft, e_gdff, e_ift, e_iff, e_not, e_ln, e_lnT, e_cp, e_cvi, e_ex20, e_ex21, e_ex30, e_ex31, e_ex32, e_add, e_sub, e_mul, e_quo, e_rem, e_and, e_or, e_xor, e_shl, e_shr, e_eql, e_neq, e_lss, e_leq, e_gtr, e_geq, e_beq, e_bne, e_peq1, e_peq2, e_pne1, e_pne2, e_zeq1, e_zeq2, e_zne1, e_zne2, e_feq1, e_fne1, e_feq2, e_fne2, e_seq, e_sne, e_ta1, e_ta2, Nat.zero_add, Nat.add_zero, Bool.not_true, Bool.not_false]
    refine h.stT 7 { s with fl := inc s.fl } rfl rfl rfl (by decide) rfl fun w1 h1 hk1 => ?_
    refine count_ok (s := { s with fl := inc s.fl }) ⟨fl, fr, kv, ⟨h1.row, h1.l1, h1.l2, h1.old, h1.new, h1.kvp, h1.qm, h1.qs⟩⟩ ⟨hb.f, hb.g, hb.k, hb.l0, hb.l1⟩ ho fun w2 h2 hk2 => ?_
    cases hbr : (burnS { s with fl := inc s.fl }).1 with
    | true =>
      rw [hbr, if_pos rfl] at hK
      simp only [if_true, e_fd, e_nck, e_pkt, e_pkf, e_gdtt, e_gdtf, e_gdft, e_gdff, e_ift, e_iff, e_not, e_ln, e_lnT, e_cp, e_cvi, e_ex20, e_ex21, e_ex30, e_ex31, e_ex32, e_add, e_sub, e_mul, e_quo, e_rem, e_and, e_or, e_xor, e_shl, e_shr, e_eql, e_neq, e_lss, e_leq, e_gtr, e_geq, e_beq, e_bne, e_peq1, e_peq2, e_pne1, e_pne2, e_zeq1, e_zeq2, e_zne1, e_zne2, e_feq1, e_fne1, e_feq2, e_fne2, e_seq, e_sne, e_ta1, e_ta2, Nat.zero_add, Nat.add_zero, Bool.not_true, Bool.not_false]
      exact hK w2 h2 (hk1.trans hk2)
    | false =>
      rw [hbr, if_neg (by decide)] at hK
      simp only [Bool.false_eq_true, if_false, e_fd, e_nck, e_pkt, e_pkf, e_gdtt, e_gdtf, e_gdft, e_gdff, e_ift, e_iff, e_not, e_ln, e_lnT, e_cp, e_cvi, e_ex20, e_ex21, e_ex30, e_ex31, e_ex32, e_add, e_sub, e_mul, e_quo, e_rem, e_and, e_or, e_xor, e_shl, e_shr, e_eql, e_neq, e_lss, e_leq, e_gtr, e_geq, e_beq, e_bne, e_peq1, e_peq2, e_pne1, e_pne2, e_zeq1, e_zeq2, e_zne1, e_zne2, e_feq1, e_fne1, e_feq2, e_fne2, e_seq, e_sne, e_ta1, e_ta2, Nat.zero_add, Nat.add_zero, Bool.not_true, Bool.not_false]
      generalize (burnS { s with fl := inc s.fl }).2 = s2 at h2 hK
      obtain ⟨fl2, fr2, kv2, h2⟩ := h2
      refine ⟨fun n l w' => ∃ (k : Nat) (fl fr : List Value) (F : Nat → List Int) (G : Nat → Option (List Int)), k ≤ 12 ∧ n = 12 - k ∧ l = [P mb 0, I k] ∧ Md Q w' mb fl fr kv2 F G s2 ∧ (∀ i, i < 12 → i < k → F i = nowS s2 i ∧ G i = none) ∧ (∀ i, i < 12 → k ≤ i → F i = s2.flu i ∧ G i = s2.fr i) ∧ Kp (fun b => b = mb) w w',
        12, ⟨0, fl2, fr2, _, _, by omega, by omega, rfl, h2, fun i _ q => by omega, fun i _ _ => ⟨rfl, rfl⟩, hk1.trans hk2⟩, ?_⟩
      rintro n l w3 ⟨k, fl3, fr3, F, G, hk, rfl, rfl, h3, hlow, hup, hk3⟩
      rw [s42_p8_Fe]
      unfold s42_p7
      simp only [e_fd, e_nck, e_pkt, e_pkf, e_gdtt, e_gdtf, e_gdft, e_gdff, e_ift, e_iff, e_not, e_ln, e_lnT, e_cp, e_cvi, e_ex20, e_ex21, e_ex30, e_ex31, e_ex32, e_add, e_sub, e_mul, e_quo, e_rem, e_and, e_or, e_xor, e_shl, e_shr, e_eql, e_neq, e_lss, e_leq, e_gtr, e_geq, e_beq, e_bne, e_peq1, e_peq2, e_pne1, e_pne2, e_zeq1, e_zeq2, e_zne1, e_zne2, e_feq1, e_fne1, e_feq2, e_fne2, e_seq, e_sne, e_ta1, e_ta2, Nat.zero_add, Nat.add_zero, Bool.not_true, Bool.not_false]
      by_cases hlt : k < 12
      · have hlt' : (k : Int) < 12 := by omega
        simp only [hlt', decide_true, e_fd, e_nck, e_pkt, e_pkf, e_gdtt, e_gdtf, e_gdft, e_gdff, e_ift, e_iff, e_not, e_ln, e_lnT, e_cp, e_cvi, e_ex20, e_ex21, e_ex30, e_ex31, e_ex32, e_add, e_sub, e_mul, e_quo, e_rem, e_and, e_or, e_xor, e_shl, e_shr, e_eql, e_neq, e_lss, e_leq, e_gtr, e_geq, e_beq, e_bne, e_peq1, e_peq2, e_pne1, e_pne2, e_zeq1, e_zeq2, e_zne1, e_zne2, e_feq1, e_fne1, e_feq2, e_fne2, e_seq, e_sne, e_ta1, e_ta2, Nat.zero_add, Nat.add_zero, Bool.not_true, Bool.not_false]
        obtain ⟨hfk, hgk⟩ := hup k hlt (Nat.le_refl _)
        have next : ∀ w' fl' fr' F' G', Md Q w' mb fl' fr' kv2 F' G' s2 → F' k = nowS s2 k → G' k = none → (∀ i, i < 12 → i ≠ k → F' i = F i ∧ G' i = G i) → Kp (fun b => b = mb) w3 w' →
            s42_p2 K (fun l' w' => ∃ n', n' < 12 - k ∧ ∃ (k : Nat) (fl fr : List Value) (F : Nat → List Int) (G : Nat → Option (List Int)), k ≤ 12 ∧ n' = 12 - k ∧ l' = [P mb 0, I k] ∧ Md Q w' mb fl fr kv2 F G s2 ∧ (∀ i, i < 12 → i < k → F i = nowS s2 i ∧ G i = none) ∧ (∀ i, i < 12 → k ≤ i → F i = s2.flu i ∧ G i = s2.fr i) ∧ Kp (fun b => b = mb) w w')
              (P mb 0) (I k) w' := by
          intro w' fl' fr' F' G' h' e1 e2 e3 hk'
          unfold s42_p2
          simp only [e_fd, e_nck, e_pkt, e_pkf, e_gdtt, e_gdtf, e_gdft, e_gdff, e_ift, e_iff, e_not, e_ln, e_lnT, e_cp, e_cvi, e_ex20, e_ex21, e_ex30, e_ex31, e_ex32, e_add, e_sub, e_mul, e_quo, e_rem, e_and, e_or, e_xor, e_shl, e_shr, e_eql, e_neq, e_lss, e_leq, e_gtr, e_geq, e_beq, e_bne, e_peq1, e_peq2, e_pne1, e_pne2, e_zeq1, e_zeq2, e_zne1, e_zne2, e_feq1, e_fne1, e_feq2, e_fne2, e_seq, e_sne, e_ta1, e_ta2, Nat.zero_add, Nat.add_zero, Bool.not_true, Bool.not_false]
          rw [wrap64_id (by omega) (by omega)]
          refine ⟨12 - (k + 1), by omega, k + 1, fl', fr', F', G', by omega, rfl, by simp, h', fun i hi hik => ?_, fun i hi hik => ?_, hk3.trans hk'⟩
          · by_cases e : i = k
            · subst e; exact ⟨e1, e2⟩
            · rw [(e3 i hi e).1, (e3 i hi e).2]; exact hlow i hi (by omega)
          · rw [(e3 i hi (by omega)).1, (e3 i hi (by omega)).2]; exact hup i hi (by omega)
        unfold s42_p6
        simp only [e_fd, e_nck, e_pkt, e_pkf, e_gdtt, e_gdtf, e_gdft, e_gdff, e_ift, e_iff, e_not, e_ln, e_lnT, e_cp, e_cvi, e_ex20, e_ex21, e_ex30, e_ex31, e_ex32, e_add, e_sub, e_mul, e_quo, e_rem, e_and, e_or, e_xor, e_shl, e_shr, e_eql, e_neq, e_lss, e_leq, e_gtr, e_geq, e_beq, e_bne, e_peq1, e_peq2, e_pne1, e_pne2, e_zeq1, e_zeq2, e_zne1, e_zne2, e_feq1, e_fne1, e_feq2, e_fne2, e_seq, e_sne, e_ta1, e_ta2, Nat.zero_add, Nat.add_zero, Bool.not_true, Bool.not_false]
        refine ix12 hlt ?_
        refine h3.ldG hlt fun u hu hsu => ?_
        rw [hgk] at hsu
        cases hx : s2.fr k with
        | none =>
          rw [hx] at hsu
          rw [hsu.nl]
          simp only [e_fd, e_nck, e_pkt, e_pkf, e_gdtt, e_gdtf, e_gdft, e_gdff, e_ift, e_iff, e_not, e_ln, e_lnT, e_cp, e_cvi, e_ex20, e_ex21, e_ex30, e_ex31, e_ex32, e_add, e_sub, e_mul, e_quo, e_rem, e_and, e_or, e_xor, e_shl, e_shr, e_eql, e_neq, e_lss, e_leq, e_gtr, e_geq, e_beq, e_bne, e_peq1, e_peq2, e_pne1, e_pne2, e_zeq1, e_zeq2, e_zne1, e_zne2, e_feq1, e_fne1, e_feq2, e_fne2, e_seq, e_sne, e_ta1, e_ta2, Nat.zero_add, Nat.add_zero, Bool.not_true, Bool.not_false]
          unfold s42_p5
          simp only [e_fd, e_nck, e_pkt, e_pkf, e_gdtt, e_gdtf, e_gdft, e_gdff, e_ift, e_iff, e_not, e_ln, e_lnT, e_cp, e_cvi, e_ex20, e_ex21, e_ex30, e_ex31, e_ex32, e_add, e_sub, e_mul, e_quo, e_rem, e_and, e_or, e_xor, e_shl, e_shr, e_eql, e_neq, e_lss, e_leq, e_gtr, e_geq, e_beq, e_bne, e_peq1, e_peq2, e_pne1, e_pne2, e_zeq1, e_zeq2, e_zne1, e_zne2, e_feq1, e_fne1, e_feq2, e_fne2, e_seq, e_sne, e_ta1, e_ta2, Nat.zero_add, Nat.add_zero, Bool.not_true, Bool.not_false]
          exact next w3 fl3 fr3 F G h3 (by rw [hfk]; unfold nowS; rw [hx]; rfl) (by rw [hgk, hx]) (fun i _ _ => ⟨rfl, rfl⟩) (Kp.refl _ _)
        | some x =>
          rw [hx] at hsu
          obtain ⟨ua, un_, uc, eu⟩ := hsu.nn
          rw [eu]
          simp only [e_fd, e_nck, e_pkt, e_pkf, e_gdtt, e_gdtf, e_gdft, e_gdff, e_ift, e_iff, e_not, e_ln, e_lnT, e_cp, e_cvi, e_ex20, e_ex21, e_ex30, e_ex31, e_ex32, e_add, e_sub, e_mul, e_quo, e_rem, e_and, e_or, e_xor, e_shl, e_shr, e_eql, e_neq, e_lss, e_leq, e_gtr, e_geq, e_beq, e_bne, e_peq1, e_peq2, e_pne1, e_pne2, e_zeq1, e_zeq2, e_zne1, e_zne2, e_feq1, e_fne1, e_feq2, e_fne2, e_seq, e_sne, e_ta1, e_ta2, Nat.zero_add, Nat.add_zero, Bool.not_true, Bool.not_false]
          unfold s42_p5
          simp only [e_fd, e_nck, e_pkt, e_pkf, e_gdtt, e_gdtf, e_gdft, e_gdff, e_ift, e_iff, e_not, e_ln, e_lnT, e_cp, e_cvi, e_ex20, e_ex21, e_ex30, e_ex31, e_ex32, e_add, e_sub, e_mul, e_quo, e_rem, e_and, e_or, e_xor, e_shl, e_shr, e_eql, e_neq, e_lss, e_leq, e_gtr, e_geq, e_beq, e_bne, e_peq1, e_peq2, e_pne1, e_pne2, e_zeq1, e_zeq2, e_zne1, e_zne2, e_feq1, e_fne1, e_feq2, e_fne2, e_seq, e_sne, e_ta1, e_ta2, Nat.zero_add, Nat.add_zero, Bool.not_true, Bool.not_false]
          unfold s42_p4 s42_p4_d
          simp only [e_fd, e_nck, e_pkt, e_pkf, e_gdtt, e_gdtf, e_gdft, e_gdff, e_ift, e_iff, e_not, e_ln, e_lnT, e_cp, e_cvi, e_ex20, e_ex21, e_ex30, e_ex31, e_ex32, e_add, e_sub, e_mul, e_quo, e_rem, e_and, e_or, e_xor, e_shl, e_shr, e_eql, e_neq, e_lss, e_leq, e_gtr, e_geq, e_beq, e_bne, e_peq1, e_peq2, e_pne1, e_pne2, e_zeq1, e_zeq2, e_zne1, e_zne2, e_feq1, e_fne1, e_feq2, e_fne2, e_seq, e_sne, e_ta1, e_ta2, Nat.zero_add, Nat.add_zero, Bool.not_true, Bool.not_false]
          have h3d := h3.kp' (w' := drw w3) kp_drw
          refine ix12 hlt ?_
          refine h3d.ldG hlt fun u3 hu3 hsu3 => ?_
          rw [hgk, hx] at hsu3
          refine ix0 hlt ?_
          refine h3d.stF hlt hsu3 fun w4 h4 hk4 => ?_
          unfold s42_p3
          simp only [e_fd, e_nck, e_pkt, e_pkf, e_gdtt, e_gdtf, e_gdft, e_gdff, e_ift, e_iff, e_not, e_ln, e_lnT, e_cp, e_cvi, e_ex20, e_ex21, e_ex30, e_ex31, e_ex32, e_add, e_sub, e_mul, e_quo, e_rem, e_and, e_or, e_xor, e_shl, e_shr, e_eql, e_neq, e_lss, e_leq, e_gtr, e_geq, e_beq, e_bne, e_peq1, e_peq2, e_pne1, e_pne2, e_zeq1, e_zeq2, e_zne1, e_zne2, e_feq1, e_fne1, e_feq2, e_fne2, e_seq, e_sne, e_ta1, e_ta2, Nat.zero_add, Nat.add_zero, Bool.not_true, Bool.not_false]
          refine ix12 hlt ?_
          refine h4.stG hlt (x := none) (.inl ⟨rfl, rfl⟩) fun w5 h5 hk5 => ?_
          exact next w5 _ _ _ _ h5 (by rw [updN]; unfold nowS; rw [hx]; rfl) updN (fun i _ e => ⟨updO e, updO e⟩) ((kp_drw.trans hk4).trans hk5)
      · have hlt' : ¬ (k : Int) < 12 := by omega
        simp only [hlt', decide_false, e_fd, e_nck, e_pkt, e_pkf, e_gdtt, e_gdtf, e_gdft, e_gdff, e_ift, e_iff, e_not, e_ln, e_lnT, e_cp, e_cvi, e_ex20, e_ex21, e_ex30, e_ex31, e_ex32, e_add, e_sub, e_mul, e_quo, e_rem, e_and, e_or, e_xor, e_shl, e_shr, e_eql, e_neq, e_lss, e_leq, e_gtr, e_geq, e_beq, e_bne, e_peq1, e_peq2, e_pne1, e_pne2, e_zeq1, e_zeq2, e_zne1, e_zne2, e_feq1, e_fne1, e_feq2, e_fne2, e_seq, e_sne, e_ta1, e_ta2, Nat.zero_add, Nat.add_zero, Bool.not_true, Bool.not_false]
        unfold s42_p1
        have h3' : Md Q w3 mb fl3 fr3 kv2 (nowS s2) (fun _ => none) s2 := h3.congr (fun i hi => (hlow i hi (by omega)).1) (fun i hi => (hlow i hi (by omega)).2)
        exact hK w3 ⟨fl3, fr3, kv2, ⟨h3'.row, h3'.l1, h3'.l2, h3'.old, h3'.new, h3'.kvp, h3'.qm, h3'.qs⟩⟩ hk3

theorem mrestart_ok (h : Mo Q w mb s) (hK : ∀ w', Mo Q w' mb (reS s).2 → Kp (fun b => b = mb) w w' → K (I (reS s).1) w') : cl Try.prog 44 #[P mb 0] K w := by
  obtain ⟨fl, fr, kv, h⟩ := h
  apply c44
  unfold s44_p1
  simp only [e_fd, e_nck, e_pkt, e_pkf, e_gdtt, e_gdtf, e_gdft, e_gdff, e_ift, e_iff, e_not, e_ln, e_lnT, e_cp, e_cvi, e_ex20, e_ex21, e_ex30, e_ex31, e_ex32, e_add, e_sub, e_mul, e_quo, e_rem, e_and, e_or, e_xor, e_shl, e_shr, e_eql, e_neq, e_lss, e_leq, e_gtr, e_geq, e_beq, e_bne, e_peq1, e_peq2, e_pne1, e_pne2, e_zeq1, e_zeq2, e_zne1, e_zne2, e_feq1, e_fne1, e_feq2, e_fne2, e_seq, e_sne, e_ta1, e_ta2, Nat.zero_add, Nat.add_zero, Bool.not_true, Bool.not_false]
  refine h.ldT 0 rfl rfl ?_
  unfold reS at hK
  by_cases ho : s.off = true
  · rw [if_pos ho] at hK
    rw [ho]
    simp only [Bool.not_true, e_fd, e_nck, e_pkt, e_pkf, e_gdtt, e_gdtf, e_gdft, e_gdff, e_ift, e_iff, e_not, e_ln, e_lnT, e_cp, e_cvi, e_ex20, e_ex21, e_ex30, e_ex31, e_ex32, e_add, e_sub, e_mul, e_quo, e_rem, e_and, e_or, e_xor, e_shl, e_shr, e_eql, e_neq, e_lss, e_leq, e_gtr, e_geq, e_beq, e_bne, e_peq1, e_peq2, e_pne1, e_pne2, e_zeq1, e_zeq2, e_zne1, e_zne2, e_feq1, e_fne1, e_feq2, e_fne2, e_seq, e_sne, e_ta1, e_ta2, Nat.zero_add, Nat.add_zero, Bool.not_true, Bool.not_false]
    refine h.stT 0 { s with off := false } rfl rfl rfl (by decide) rfl fun w1 h1 hk1 => ?_
    try simp only [e_fd, e_nck, e_pkt, e_pkf, e_gdtt, e_gdtf, e_gdft, e_gdff, e_ift, e_iff, e_not, e_ln, e_lnT, e_cp, e_cvi, e_ex20, e_ex21, e_ex30, e_ex31, e_ex32, e_add, e_sub, e_mul, e_quo, e_rem, e_and, e_or, e_xor, e_shl, e_shr, e_eql, e_neq, e_lss, e_leq, e_gtr, e_geq, e_beq, e_bne, e_peq1, e_peq2, e_pne1, e_pne2, e_zeq1, e_zeq2, e_zne1, e_zne2, e_feq1, e_fne1, e_feq2, e_fne2, e_seq, e_sne, e_ta1, e_ta2, Nat.zero_add, Nat.add_zero, Bool.not_true, Bool.not_false]
    refine h1.ldT 9 rfl rfl ?_
    try simp only [e_fd, e_nck, e_pkt, e_pkf, e_gdtt, e_gdtf, e_gdft, e_gdff, e_ift, e_iff, e_not, e_ln, e_lnT, e_cp, e_cvi, e_ex20, e_ex21, e_ex30, e_ex31, e_ex32, e_add, e_sub, e_mul, e_quo, e_rem, e_and, e_or, e_xor, e_shl, e_shr, e_eql, e_neq, e_lss, e_leq, e_gtr, e_geq, e_beq, e_bne, e_peq1, e_peq2, e_pne1, e_pne2, e_zeq1, e_zeq2, e_zne1, e_zne2, e_feq1, e_fne1, e_feq2, e_fne2, e_seq, e_sne, e_ta1, e_ta2, Nat.zero_add, Nat.add_zero, Bool.not_true, Bool.not_false]
    refine h1.stT 9 { s with off := false, rs := inc s.rs } rfl rfl rfl (by decide) rfl fun w2 h2 hk2 => ?_
    exact hK w2 ⟨fl, fr, kv, ⟨h2.row, h2.l1, h2.l2, h2.old, h2.new, h2.kvp, h2.qm, h2.qs⟩⟩ (hk1.trans hk2)
  · rw [if_neg ho] at hK
    have ho' : s.off = false := by simpa using ho
    rw [ho']
    simp only [Bool.not_false, e_fd, e_nck, e_pkt, e_pkf, e_gdtt, e_gdtf, e_gdft, e_gdff, e_ift, e_iff, e_not, e_ln, e_lnT, e_cp, e_cvi, e_ex20, e_ex21, e_ex30, e_ex31, e_ex32, e_add, e_sub, e_mul, e_quo, e_rem, e_and, e_or, e_xor, e_shl, e_shr, e_eql, e_neq, e_lss, e_leq, e_gtr, e_geq, e_beq, e_bne, e_peq1, e_peq2, e_pne1, e_pne2, e_zeq1, e_zeq2, e_zne1, e_zne2, e_feq1, e_fne1, e_feq2, e_fne2, e_seq, e_sne, e_ta1, e_ta2, Nat.zero_add, Nat.add_zero, Bool.not_true, Bool.not_false]
    exact hK w ⟨fl, fr, kv, h⟩ (Kp.refl _ _)

/-- the plan's three cells -/
theorem Md.stP {fl fr : List Value} (h : Md Q w mb fl fr kv F G s) {kv' : Value} {keep : List Int} {torn at_ : Int} (hv : VsP Q I w kv' keep) (hR : ∀ w', Md Q w' mb fl fr kv' F G { s with keep := keep, torn := torn, at_ := at_ } → Kp (fun b => b = mb) w w' → R w') : stn 3 (P mb 26) (.agg [kv', I torn, I at_].toArray) R w := by
  have l1 := h.l1
  have l2 := h.l2
  have e : ∀ t : List Value, (fl ++ (fr ++ t)).take 26 ++ ([kv', I torn, I at_] ++ (fl ++ (fr ++ t)).drop (26 + 3)) = fl ++ (fr ++ (t.take 2 ++ ([kv', I torn, I at_] ++ t.drop 5))) := by
    intro t
    rw [List.take_append, List.take_append, List.drop_append, List.drop_append, l1, l2, List.take_of_length_le (by omega), List.take_of_length_le (by omega), List.drop_of_length_le (by omega), List.drop_of_length_le (by omega)]
    simp
  refine stn_r h.row rfl (by simp [l1, l2, mt]) (show ([kv', I torn, I at_] : List Value).all scal = true by simp only [List.all_cons, hv.sc]; rfl) fun w3 r3 hk3 hz3 => ?_
  rw [e] at r3
  exact hR w3 (h.put hk3 r3 l1 l2 h.old h.new hv) hk3

theorem marm_ok {after : Int} {pv : Value} {keep : List Int} {torn at_ : Int} (h : Mo Q w mb s) (hpv : VsP Q I w pv keep) (hl : keep.length ≤ 65536)
    (hK : ∀ w', Mo Q w' mb (arS s after keep torn at_).2 → Kp (fun b => b = mb) w w' → K (I (arS s after keep torn at_).1) w') : cl Try.prog 45 #[P mb 0, I after, .agg #[pv, I torn, I at_]] K w := by
  obtain ⟨fl, fr, kv, h⟩ := h
  apply c45
  unfold s45_p3
  refine nw_r fun w1 r1 hk1 hz1 => ?_
  have r1' : Row w1 w.heap.size 32 [pv, I torn, I at_] := r1
  have h1 := h.kp' hk1
  have hpv1 := hpv.mv (Q' := Q) hk1 (fun _ _ q => q.elim) (fun _ q => .inl q)
  simp only [e_fd, e_nck, e_pkt, e_pkf, e_gdtt, e_gdtf, e_gdft, e_gdff, e_ift, e_iff, e_not, e_ln, e_lnT, e_cp, e_cvi, e_ex20, e_ex21, e_ex30, e_ex31, e_ex32, e_add, e_sub, e_mul, e_quo, e_rem, e_and, e_or, e_xor, e_shl, e_shr, e_eql, e_neq, e_lss, e_leq, e_gtr, e_geq, e_beq, e_bne, e_peq1, e_peq2, e_pne1, e_pne2, e_zeq1, e_zeq2, e_zne1, e_zne2, e_feq1, e_fne1, e_feq2, e_fne2, e_seq, e_sne, e_ta1, e_ta2, Nat.zero_add, Nat.add_zero, Bool.not_true, Bool.not_false]
  refine h1.ldT 0 rfl rfl ?_
  unfold arS at hK
  by_cases ho : s.off = true
  · rw [if_pos ho] at hK
    rw [ho]
    simp only [e_fd, e_nck, e_pkt, e_pkf, e_gdtt, e_gdtf, e_gdft, e_gdff, e_ift, e_iff, e_not, e_ln, e_lnT, e_cp, e_cvi, e_ex20, e_ex21, e_ex30, e_ex31, e_ex32, e_add, e_sub, e_mul, e_quo, e_rem, e_and, e_or, e_xor, e_shl, e_shr, e_eql, e_neq, e_lss, e_leq, e_gtr, e_geq, e_beq, e_bne, e_peq1, e_peq2, e_pne1, e_pne2, e_zeq1, e_zeq2, e_zne1, e_zne2, e_feq1, e_fne1, e_feq2, e_fne2, e_seq, e_sne, e_ta1, e_ta2, Nat.zero_add, Nat.add_zero, Bool.not_true, Bool.not_false]
    exact hK w1 ⟨fl, fr, kv, h1⟩ hk1.none
  · rw [if_neg ho] at hK
    have ho' : s.off = false := by simpa using ho
    rw [ho']
    simp only [e_fd, e_nck, e_pkt, e_pkf, e_gdtt, e_gdtf, e_gdft, e_gdff, e_ift, e_iff, e_not, e_ln, e_lnT, e_cp, e_cvi, e_ex20, e_ex21, e_ex30, e_ex31, e_ex32, e_add, e_sub, e_mul, e_quo, e_rem, e_and, e_or, e_xor, e_shl, e_shr, e_eql, e_neq, e_lss, e_leq, e_gtr, e_geq, e_beq, e_bne, e_peq1, e_peq2, e_pne1, e_pne2, e_zeq1, e_zeq2, e_zne1, e_zne2, e_feq1, e_fne1, e_feq2, e_fne2, e_seq, e_sne, e_ta1, e_ta2, Nat.zero_add, Nat.add_zero, Bool.not_true, Bool.not_false]
    by_cases ha : after < 1
    · simp only [ha, decide_true, e_fd, e_nck, e_pkt, e_pkf, e_gdtt, e_gdtf, e_gdft, e_gdff, e_ift, e_iff, e_not, e_ln, e_lnT, e_cp, e_cvi, e_ex20, e_ex21, e_ex30, e_ex31, e_ex32, e_add, e_sub, e_mul, e_quo, e_rem, e_and, e_or, e_xor, e_shl, e_shr, e_eql, e_neq, e_lss, e_leq, e_gtr, e_geq, e_beq, e_bne, e_peq1, e_peq2, e_pne1, e_pne2, e_zeq1, e_zeq2, e_zne1, e_zne2, e_feq1, e_fne1, e_feq2, e_fne2, e_seq, e_sne, e_ta1, e_ta2, Nat.zero_add, Nat.add_zero, Bool.not_true, Bool.not_false]
      rw [if_pos ha] at hK
      exact hK w1 ⟨fl, fr, kv, h1⟩ hk1.none
    · simp only [ha, decide_false, e_fd, e_nck, e_pkt, e_pkf, e_gdtt, e_gdtf, e_gdft, e_gdff, e_ift, e_iff, e_not, e_ln, e_lnT, e_cp, e_cvi, e_ex20, e_ex21, e_ex30, e_ex31, e_ex32, e_add, e_sub, e_mul, e_quo, e_rem, e_and, e_or, e_xor, e_shl, e_shr, e_eql, e_neq, e_lss, e_leq, e_gtr, e_geq, e_beq, e_bne, e_peq1, e_peq2, e_pne1, e_pne2, e_zeq1, e_zeq2, e_zne1, e_zne2, e_feq1, e_fne1, e_feq2, e_fne2, e_seq, e_sne, e_ta1, e_ta2, Nat.zero_add, Nat.add_zero, Bool.not_true, Bool.not_false]
      rw [if_neg ha] at hK
      refine h1.stT 1 { s with left := after } rfl rfl rfl (by decide) rfl fun w2 h2 hk2 => ?_
      have r2 := hk2.row r1' (fun (e : _ = _) => row_ne r1' h1.row (by decide) e)
      have hpv2 := hpv1.mv (Q' := Q) hk2 (fun b _ (e : b = mb) => e ▸ h1.qm) (fun _ q => .inl q)
      unfold s45_p2 s45_p2_d
      simp only [e_fd, e_nck, e_pkt, e_pkf, e_gdtt, e_gdtf, e_gdft, e_gdff, e_ift, e_iff, e_not, e_ln, e_lnT, e_cp, e_cvi, e_ex20, e_ex21, e_ex30, e_ex31, e_ex32, e_add, e_sub, e_mul, e_quo, e_rem, e_and, e_or, e_xor, e_shl, e_shr, e_eql, e_neq, e_lss, e_leq, e_gtr, e_geq, e_beq, e_bne, e_peq1, e_peq2, e_pne1, e_pne2, e_zeq1, e_zeq2, e_zne1, e_zne2, e_feq1, e_fne1, e_feq2, e_fne2, e_seq, e_sne, e_ta1, e_ta2, Nat.zero_add, Nat.add_zero, Bool.not_true, Bool.not_false]
      have h2d := h2.kp' (w' := drw w2) kp_drw
      refine ld1_r r2.drw (v := pv) rfl ?_
      refine ld1_r r2.drw (v := I torn) rfl ?_
      refine ld1_r r2.drw (v := I at_) rfl ?_
      refine bsq_r (l := []) (by simp [zrep, fillL]) fun w3 r3 hk3 hz3 => ⟨hk3.below', ?_⟩
      have hpv3 := ((hpv2.1.kp' (w' := drw w2) kp_drw).kp' hk3)
      refine ap_copy1 r3 hpv3 (by omega) (by omega) fun w4 b cap junk hcap hbb r4 hk4 => ⟨(hk3.trans hk4).below', ?_⟩
      refine bdq_r rfl ?_
      have h4 := (h2d.kp' hk3).kp' hk4
      have hbs : (drw w2).heap.size ≤ b := by rcases hbb with q | q <;> omega
      refine h4.stP (kv' := .slice (some ⟨b, 0, none⟩) keep.length cap) (keep := keep) ⟨vs_row r4 hcap (by omega), fun b' o c h0 e q => by cases e; have := h2d.qs _ q; omega⟩ fun w5 h5 hk5 => ?_
      unfold s45_p1
      exact hK w5 ⟨fl, fr, _, ⟨h5.row, h5.l1, h5.l2, h5.old, h5.new, h5.kvp, h5.qm, h5.qs⟩⟩ ((((hk1.none.trans hk2).trans kp_drw).trans (hk3.trans hk4).none).trans hk5)

theorem mdisarm_ok (h : Mo Q w mb s) (hK : ∀ w', Mo Q w' mb (diS s).2 → Kp (fun b => b = mb) w w' → K (I (diS s).1) w') : cl Try.prog 46 #[P mb 0] K w := by
  obtain ⟨fl, fr, kv, h⟩ := h
  apply c46
  unfold s46_p1
  simp only [e_fd, e_nck, e_pkt, e_pkf, e_gdtt, e_gdtf, e_gdft, e_gdff, e_ift, e_iff, e_not, e_ln, e_lnT, e_cp, e_cvi, e_ex20, e_ex21, e_ex30, e_ex31, e_ex32, e_add, e_sub, e_mul, e_quo, e_rem, e_and, e_or, e_xor, e_shl, e_shr, e_eql, e_neq, e_lss, e_leq, e_gtr, e_geq, e_beq, e_bne, e_peq1, e_peq2, e_pne1, e_pne2, e_zeq1, e_zeq2, e_zne1, e_zne2, e_feq1, e_fne1, e_feq2, e_fne2, e_seq, e_sne, e_ta1, e_ta2, Nat.zero_add, Nat.add_zero, Bool.not_true, Bool.not_false]
  refine h.ldT 0 rfl rfl ?_
  unfold diS at hK
  by_cases ho : s.off = true
  · rw [if_pos ho] at hK
    rw [ho]
    simp only [e_fd, e_nck, e_pkt, e_pkf, e_gdtt, e_gdtf, e_gdft, e_gdff, e_ift, e_iff, e_not, e_ln, e_lnT, e_cp, e_cvi, e_ex20, e_ex21, e_ex30, e_ex31, e_ex32, e_add, e_sub, e_mul, e_quo, e_rem, e_and, e_or, e_xor, e_shl, e_shr, e_eql, e_neq, e_lss, e_leq, e_gtr, e_geq, e_beq, e_bne, e_peq1, e_peq2, e_pne1, e_pne2, e_zeq1, e_zeq2, e_zne1, e_zne2, e_feq1, e_fne1, e_feq2, e_fne2, e_seq, e_sne, e_ta1, e_ta2, Nat.zero_add, Nat.add_zero, Bool.not_true, Bool.not_false]
    exact hK w ⟨fl, fr, kv, h⟩ (Kp.refl _ _)
  · rw [if_neg ho] at hK
    have ho' : s.off = false := by simpa using ho
    rw [ho']
    simp only [e_fd, e_nck, e_pkt, e_pkf, e_gdtt, e_gdtf, e_gdft, e_gdff, e_ift, e_iff, e_not, e_ln, e_lnT, e_cp, e_cvi, e_ex20, e_ex21, e_ex30, e_ex31, e_ex32, e_add, e_sub, e_mul, e_quo, e_rem, e_and, e_or, e_xor, e_shl, e_shr, e_eql, e_neq, e_lss, e_leq, e_gtr, e_geq, e_beq, e_bne, e_peq1, e_peq2, e_pne1, e_pne2, e_zeq1, e_zeq2, e_zne1, e_zne2, e_feq1, e_fne1, e_feq2, e_fne2, e_seq, e_sne, e_ta1, e_ta2, Nat.zero_add, Nat.add_zero, Bool.not_true, Bool.not_false]
    refine h.stT 1 { s with left := 0 } rfl rfl rfl (by decide) rfl fun w1 h1 hk1 => ?_
    refine bdq_r rfl ?_
    try simp only [e_fd, e_nck, e_pkt, e_pkf, e_gdtt, e_gdtf, e_gdft, e_gdff, e_ift, e_iff, e_not, e_ln, e_lnT, e_cp, e_cvi, e_ex20, e_ex21, e_ex30, e_ex31, e_ex32, e_add, e_sub, e_mul, e_quo, e_rem, e_and, e_or, e_xor, e_shl, e_shr, e_eql, e_neq, e_lss, e_leq, e_gtr, e_geq, e_beq, e_bne, e_peq1, e_peq2, e_pne1, e_pne2, e_zeq1, e_zeq2, e_zne1, e_zne2, e_feq1, e_fne1, e_feq2, e_fne2, e_seq, e_sne, e_ta1, e_ta2, Nat.zero_add, Nat.add_zero, Bool.not_true, Bool.not_false]
    refine h1.stP (kv' := nilS) (keep := []) (torn := 0) (at_ := 0) ⟨vs_nil, fun b o c h0 _ => by simp at h0⟩ fun w2 h2 hk2 => ?_
    exact hK w2 ⟨fl, fr, nilS, ⟨h2.row, h2.l1, h2.l2, h2.old, h2.new, h2.kvp, h2.qm, h2.qs⟩⟩ (hk1.trans hk2)
end
end Go.Proofs.Qxb6500895a
