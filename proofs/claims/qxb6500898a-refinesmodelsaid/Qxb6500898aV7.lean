import Derived.Test.Qxb6500898aV6
namespace Go.Proofs.Qxb6500898a
open Go.Sh Go.RowKit
set_option linter.unusedVariables false
set_option linter.unusedSimpArgs false

theorem be8_val {l : List Int} (h : 8 ≤ l.length) : be8 l = val (l.take 8) := by
  match l, h with
  | a0 :: a1 :: a2 :: a3 :: a4 :: a5 :: a6 :: a7 :: r, _ =>
    simp only [be8, List.take_succ_cons, List.take_zero, val, List.length_cons, List.length_nil, g0, gs, Nat.reduceAdd, Int.reducePow]
    omega
theorem be8_rng {l : List Int} (h : ∀ j, 0 ≤ g l j ∧ g l j ≤ 255) : 0 ≤ be8 l ∧ be8 l < 18446744073709551616 := by
  have h0 := h 0
  have h1 := h 1
  have h2 := h 2
  have h3 := h 3
  have h4 := h 4
  have h5 := h 5
  have h6 := h 6
  have h7 := h 7
  unfold be8
  omega
theorem val_dB8 {z : Int} (h0 : 0 ≤ z) (h1 : z < 18446744073709551616) : val (dB8 z) = z := by
  simp only [dB8, dB4, List.cons_append, List.nil_append, val, List.length_cons, List.length_nil, Nat.reduceAdd, Int.reducePow]
  omega
section
variable {w w' : World} {v d : Value} {ob : Option Nat} {o : Nat} {xs ys zs : List Int} {pre post : List Value} {K : Value → World → Prop} {B1 : List Value → World → Prop} {k : World → Prop} {i e p : Nat} {z c : Int} {C : Nat → Prop}
theorem drop_split (he : e ≤ i) (hi : i ≤ xs.length) : xs.drop e = (xs.take i).drop e ++ xs.drop i := by
  have : xs.drop e = (xs.take i ++ xs.drop i).drop e := by rw [List.take_append_drop]
  rw [this, List.drop_append_of_le_length (by rw [List.length_take]; omega)]
theorem Mv.put64 (h : Mv w v ob o xs pre post) (hl : 8 ≤ xs.length) (hz : 0 ≤ z) (hK : ∀ w', Mv w' v ob o (dB8 z ++ xs.drop 8) pre post → Kp (fun k => ob = some k) w w' → w'.heap.size = w.heap.size → K (.tuple #[]) w') : cl Try.prog 81 #[v, .int .u64 z] K w := by
  have hlen := h.len
  rcases h.at_ with ⟨rfl, rfl, _⟩ | ⟨b, c, hob, rfl, h3, h4, h5⟩
  · simp at hl
  · refine PutBE64_ok ⟨h4, h5, h.by_⟩ hl h3 hz fun w1 s1 hk1 hz1 => ?_
    have e : (dB8 z ++ xs.drop 8).length = xs.length := by rw [List.length_append, List.length_drop]; show 8 + _ = _; omega
    exact hK w1 ⟨s1.by_, by omega, .inr ⟨b, c, hob, by rw [e], by omega, s1.row, s1.off⟩⟩ (hk1.mono fun x _ (q : x = b) => by rw [hob, q]) hz1
theorem Mv.store {width : Int} {little : Bool} (hw : Wid width) (h : Mv w v ob o xs pre post) (hl : width ≤ xs.length) (hz : 0 ≤ z) (hK : ∀ w', Mv w' v ob o (enc width little z ++ xs.drop width.toNat) pre post → Kp (fun k => ob = some k) w w' → w'.heap.size = w.heap.size → K (.tuple #[]) w') : cl Try.prog 36 #[v, I width, .bool little, .int .u64 z] K w := by
  have hlen := h.len
  have el := enc_len (z := z) (little := little) hw
  have hw2 : 2 ≤ width := by rcases hw with rfl | rfl | rfl <;> decide
  rcases h.at_ with ⟨rfl, rfl, _⟩ | ⟨b, c, hob, rfl, h3, h4, h5⟩
  · simp at hl; omega
  · refine store_ok hw ⟨h4, h5, h.by_⟩ hl h3 hz fun w1 s1 hk1 hz1 => ?_
    have e : (enc width little z ++ xs.drop width.toNat).length = xs.length := by rw [List.length_append, List.length_drop]; omega
    exact hK w1 ⟨s1.by_, by omega, .inr ⟨b, c, hob, by rw [e], by omega, s1.row, s1.off⟩⟩ (hk1.mono fun x _ (q : x = b) => by rw [hob, q]) hz1

/-- what is left of the sum at place i -/
def AI (xs ys S : List Int) (i : Nat) (c : Int) : Prop := i ≤ xs.length ∧ S.length + i = xs.length ∧ By S ∧ (c = 0 ∨ c = 1) ∧ val S + c * 256 ^ S.length = val (xs.drop i) + val (ys.drop i)
theorem AI.step {S D : List Int} {e i : Nat} {c c' : Int} {a b s : Int} (hxy : ys.length = xs.length) (h : AI xs ys S i c) (he : e + D.length = i) (hD : By D) (hc' : c' = 0 ∨ c' = 1) (hvD : val D = s) (ha : val ((xs.take i).drop e) = a) (hb : val ((ys.take i).drop e) = b) (hs : s + c' * 256 ^ D.length = a + b + c) : AI xs ys (D ++ S) e c' := by
  obtain ⟨h1, h2, h3, h4, h5⟩ := h
  refine ⟨by omega, by rw [List.length_append]; omega, hD.app h3, hc', ?_⟩
  have q1 : (xs.drop i).length = S.length := by rw [List.length_drop]; omega
  have q2 : (ys.drop i).length = S.length := by rw [List.length_drop]; omega
  rw [drop_split (xs := xs) (e := e) (i := i) (by omega) h1, drop_split (xs := ys) (e := e) (i := i) (by omega) (by omega), val_app, val_app, val_app, hvD, ha, hb, q1, q2, List.length_append, Int.pow_add]
  have e1 : (s + c' * 256 ^ D.length) * 256 ^ S.length = (a + b + c) * 256 ^ S.length := by rw [hs]
  rw [Int.add_mul, Int.add_mul, Int.add_mul] at e1
  have e2 : c' * (256 ^ D.length * 256 ^ S.length) = c' * 256 ^ D.length * 256 ^ S.length := by rw [Int.mul_assoc]
  omega
theorem addOnes_ok (h : Mv w v ob o xs pre post) (hd : ∀ w', Kp (fun k => ob = some k) w w' → Bs w' d ys)
    (hN : xs.length ≠ ys.length → K (.bool false) w)
    (hY : xs.length = ys.length → ∀ w' zs, Mv w' v ob o zs pre post → zs.length = xs.length → Res xs.length (val xs + val ys) (val zs) → Kp (fun k => ob = some k) w w' → w.heap.size ≤ w'.heap.size → K (.bool true) w') : cl Try.prog 40 #[v, d] K w := by
  have hl := h.len
  have hd0 := hd w (Kp.refl _ _)
  apply c40
  unfold s40_p12
  refine h.ln ?_
  refine hd0.ln ?_
  try simp only [e_fd, e_nck, e_pkt, e_pkf, e_gdtt, e_gdtf, e_gdft, e_gdff, e_ift, e_iff, e_not, e_ln, e_lnT, e_cp, e_cvi, e_ex20, e_ex21, e_ex30, e_ex31, e_ex32, e_add, e_sub, e_mul, e_quo, e_rem, e_and, e_or, e_xor, e_shl, e_shr, e_eql, e_neq, e_lss, e_leq, e_gtr, e_geq, e_beq, e_bne, e_peq1, e_peq2, e_pne1, e_pne2, e_zeq1, e_zeq2, e_zne1, e_zne2, e_feq1, e_fne1, e_feq2, e_fne2, e_seq, e_sne, e_ta1, e_ta2, Nat.zero_add, Nat.add_zero, Bool.not_true, Bool.not_false]
  by_cases hnn : ¬ xs.length = ys.length
  · have e : (((xs.length : Nat) : Int) != ((ys.length : Nat) : Int)) = true := by rw [bne_iff_ne]; omega
    simp only [e, e_fd, e_nck, e_pkt, e_pkf, e_gdtt, e_gdtf, e_gdft, e_gdff, e_ift, e_iff, e_not, e_ln, e_lnT, e_cp, e_cvi, e_ex20, e_ex21, e_ex30, e_ex31, e_ex32, e_add, e_sub, e_mul, e_quo, e_rem, e_and, e_or, e_xor, e_shl, e_shr, e_eql, e_neq, e_lss, e_leq, e_gtr, e_geq, e_beq, e_bne, e_peq1, e_peq2, e_pne1, e_pne2, e_zeq1, e_zeq2, e_zne1, e_zne2, e_feq1, e_fne1, e_feq2, e_fne2, e_seq, e_sne, e_ta1, e_ta2, Nat.zero_add, Nat.add_zero, Bool.not_true, Bool.not_false]
    exact hN hnn
  have hne : xs.length = ys.length := Decidable.not_not.1 hnn
  have e : (((xs.length : Nat) : Int) != ((ys.length : Nat) : Int)) = false := by rw [hne]; exact bne_self_eq_false _
  simp only [e, e_fd, e_nck, e_pkt, e_pkf, e_gdtt, e_gdtf, e_gdft, e_gdff, e_ift, e_iff, e_not, e_ln, e_lnT, e_cp, e_cvi, e_ex20, e_ex21, e_ex30, e_ex31, e_ex32, e_add, e_sub, e_mul, e_quo, e_rem, e_and, e_or, e_xor, e_shl, e_shr, e_eql, e_neq, e_lss, e_leq, e_gtr, e_geq, e_beq, e_bne, e_peq1, e_peq2, e_pne1, e_pne2, e_zeq1, e_zeq2, e_zne1, e_zne2, e_feq1, e_fne1, e_feq2, e_fne2, e_seq, e_sne, e_ta1, e_ta2, Nat.zero_add, Nat.add_zero, Bool.not_true, Bool.not_false]
  refine h.ln ?_
  have hy : By ys := hd0.by_
  -- the second loop
  have second : ∀ {w1 : World} {S : List Int} {i : Nat} {c : Int}, Mv w1 v ob o (xs.take i ++ S) pre post → AI xs ys S i c → Kp (fun k => ob = some k) w w1 → s40_p6 K v d (.int .u64 c) (I (i : Nat)) w1 := by
    intro w1 S i c m1 ai hk1
    unfold s40_p6
    refine ⟨fun n l w' => ∃ (S' : List Int) (c' : Int), l = [v, d, .int .u64 c', I (n : Nat)] ∧ Mv w' v ob o (xs.take n ++ S') pre post ∧ AI xs ys S' n c' ∧ Kp (fun k => ob = some k) w w', i, ⟨S, c, rfl, m1, ai, hk1⟩, ?_⟩
    rintro n l w2 ⟨S', c', rfl, m2, ai2, hk2⟩
    rw [s40_p6_Fe]
    unfold s40_p5
    try simp only [e_fd, e_nck, e_pkt, e_pkf, e_gdtt, e_gdtf, e_gdft, e_gdff, e_ift, e_iff, e_not, e_ln, e_lnT, e_cp, e_cvi, e_ex20, e_ex21, e_ex30, e_ex31, e_ex32, e_add, e_sub, e_mul, e_quo, e_rem, e_and, e_or, e_xor, e_shl, e_shr, e_eql, e_neq, e_lss, e_leq, e_gtr, e_geq, e_beq, e_bne, e_peq1, e_peq2, e_pne1, e_pne2, e_zeq1, e_zeq2, e_zne1, e_zne2, e_feq1, e_fne1, e_feq2, e_fne2, e_seq, e_sne, e_ta1, e_ta2, Nat.zero_add, Nat.add_zero, Bool.not_true, Bool.not_false]
    have ai2' := ai2
    obtain ⟨a1, a2, a3, a4, a5⟩ := ai2
    by_cases hp : 0 < n
    · have hp' : (0 : Int) < ((n : Nat) : Int) := by omega
      simp only [hp', decide_true, e_fd, e_nck, e_pkt, e_pkf, e_gdtt, e_gdtf, e_gdft, e_gdff, e_ift, e_iff, e_not, e_ln, e_lnT, e_cp, e_cvi, e_ex20, e_ex21, e_ex30, e_ex31, e_ex32, e_add, e_sub, e_mul, e_quo, e_rem, e_and, e_or, e_xor, e_shl, e_shr, e_eql, e_neq, e_lss, e_leq, e_gtr, e_geq, e_beq, e_bne, e_peq1, e_peq2, e_pne1, e_pne2, e_zeq1, e_zeq2, e_zne1, e_zne2, e_feq1, e_fne1, e_feq2, e_fne2, e_seq, e_sne, e_ta1, e_ta2, Nat.zero_add, Nat.add_zero, Bool.not_true, Bool.not_false]
      unfold s40_p4 s40_p4_d
      have k3 : Kp (fun _ => False) w2 (drw w2) := kp_drw
      generalize drw w2 = w3 at k3 ⊢
      have m3 := m2.kp' k3
      have hk3 : Kp (fun k => ob = some k) w w3 := hk2.then k3 (fun _ _ q => q.elim)
      try simp only [e_fd, e_nck, e_pkt, e_pkf, e_gdtt, e_gdtf, e_gdft, e_gdff, e_ift, e_iff, e_not, e_ln, e_lnT, e_cp, e_cvi, e_ex20, e_ex21, e_ex30, e_ex31, e_ex32, e_add, e_sub, e_mul, e_quo, e_rem, e_and, e_or, e_xor, e_shl, e_shr, e_eql, e_neq, e_lss, e_leq, e_gtr, e_geq, e_beq, e_bne, e_peq1, e_peq2, e_pne1, e_pne2, e_zeq1, e_zeq2, e_zne1, e_zne2, e_feq1, e_fne1, e_feq2, e_fne2, e_seq, e_sne, e_ta1, e_ta2, Nat.zero_add, Nat.add_zero, Bool.not_true, Bool.not_false]
      rw [wrap64_id (by omega) (by omega)]
      have hlt : n - 1 < (xs.take n ++ S').length := by rw [List.length_append, List.length_take]; omega
      have hg1 : (xs.take n ++ S')[n - 1] = xs[n - 1]'(by omega) := by rw [List.getElem_append_left (by rw [List.length_take]; omega), List.getElem_take]
      refine m3.get (i := n - 1) hlt (by omega) ?_
      rw [hg1]
      try simp only [e_fd, e_nck, e_pkt, e_pkf, e_gdtt, e_gdtf, e_gdft, e_gdff, e_ift, e_iff, e_not, e_ln, e_lnT, e_cp, e_cvi, e_ex20, e_ex21, e_ex30, e_ex31, e_ex32, e_add, e_sub, e_mul, e_quo, e_rem, e_and, e_or, e_xor, e_shl, e_shr, e_eql, e_neq, e_lss, e_leq, e_gtr, e_geq, e_beq, e_bne, e_peq1, e_peq2, e_pne1, e_pne2, e_zeq1, e_zeq2, e_zne1, e_zne2, e_feq1, e_fne1, e_feq2, e_fne2, e_seq, e_sne, e_ta1, e_ta2, Nat.zero_add, Nat.add_zero, Bool.not_true, Bool.not_false]
      refine (hd w3 hk3).ixg (n - 1) (by omega) (by omega) fun b q hld => hld _ ?_
      try simp only [e_fd, e_nck, e_pkt, e_pkf, e_gdtt, e_gdtf, e_gdft, e_gdff, e_ift, e_iff, e_not, e_ln, e_lnT, e_cp, e_cvi, e_ex20, e_ex21, e_ex30, e_ex31, e_ex32, e_add, e_sub, e_mul, e_quo, e_rem, e_and, e_or, e_xor, e_shl, e_shr, e_eql, e_neq, e_lss, e_leq, e_gtr, e_geq, e_beq, e_bne, e_peq1, e_peq2, e_pne1, e_pne2, e_zeq1, e_zeq2, e_zne1, e_zne2, e_feq1, e_fne1, e_feq2, e_fne2, e_seq, e_sne, e_ta1, e_ta2, Nat.zero_add, Nat.add_zero, Bool.not_true, Bool.not_false]
      have hx := h.by_ _ (List.getElem_mem (show n - 1 < xs.length by omega))
      have hy1 := (hd w3 hk3).gb (n - 1)
      generalize hxv : xs[n - 1]'(by omega) = x at hx ⊢
      generalize hyv : g ys (n - 1) = y at hy1 ⊢
      rw [wrapu64 x, wrapu64 y, show x % 18446744073709551616 = x by omega, show y % 18446744073709551616 = y by omega, wrapu64 (x + y), show (x + y) % 18446744073709551616 = x + y by omega, wrapu64 (x + y + c'), show (x + y + c') % 18446744073709551616 = x + y + c' by omega]
      unfold s40_p3
      try simp only [e_fd, e_nck, e_pkt, e_pkf, e_gdtt, e_gdtf, e_gdft, e_gdff, e_ift, e_iff, e_not, e_ln, e_lnT, e_cp, e_cvi, e_ex20, e_ex21, e_ex30, e_ex31, e_ex32, e_add, e_sub, e_mul, e_quo, e_rem, e_and, e_or, e_xor, e_shl, e_shr, e_eql, e_neq, e_lss, e_leq, e_gtr, e_geq, e_beq, e_bne, e_peq1, e_peq2, e_pne1, e_pne2, e_zeq1, e_zeq2, e_zne1, e_zne2, e_feq1, e_fne1, e_feq2, e_fne2, e_seq, e_sne, e_ta1, e_ta2, Nat.zero_add, Nat.add_zero, Bool.not_true, Bool.not_false]
      rw [wrap64_id (by omega) (by omega), wrapu8]
      refine m3.ix (i := n - 1) hlt (by omega) fun pp _ hst => ?_
      refine hst m3 rfl (by omega) fun w4 m4 hk4 hz4 => ?_
      have hset : (xs.take n ++ S').set (n - 1) ((x + y + c') % 256) = xs.take (n - 1) ++ ([(x + y + c') % 256] ++ S') := by
        rw [List.set_append_left _ _ (by rw [List.length_take]; omega), ← List.append_assoc]
        congr 1
        obtain ⟨j, hj⟩ : ∃ j, n = j + 1 := ⟨n - 1, by omega⟩
        subst hj
        rw [Nat.add_sub_cancel, List.take_add_one, List.getElem?_eq_getElem (by omega)]
        have : (xs.take j).length = j := by rw [List.length_take]; omega
        rw [List.set_append_right _ _ (by omega), this, Nat.sub_self]
        rfl
      rw [hset] at m4
      try simp only [e_fd, e_nck, e_pkt, e_pkf, e_gdtt, e_gdtf, e_gdft, e_gdff, e_ift, e_iff, e_not, e_ln, e_lnT, e_cp, e_cvi, e_ex20, e_ex21, e_ex30, e_ex31, e_ex32, e_add, e_sub, e_mul, e_quo, e_rem, e_and, e_or, e_xor, e_shl, e_shr, e_eql, e_neq, e_lss, e_leq, e_gtr, e_geq, e_beq, e_bne, e_peq1, e_peq2, e_pne1, e_pne2, e_zeq1, e_zeq2, e_zne1, e_zne2, e_feq1, e_fne1, e_feq2, e_fne2, e_seq, e_sne, e_ta1, e_ta2, Nat.zero_add, Nat.add_zero, Bool.not_true, Bool.not_false]
      refine ⟨by decide, ?_⟩
      rw [p64_8, Int.fdiv_eq_ediv_of_nonneg _ (by decide)]
      unfold s40_p2
      try simp only [e_fd, e_nck, e_pkt, e_pkf, e_gdtt, e_gdtf, e_gdft, e_gdff, e_ift, e_iff, e_not, e_ln, e_lnT, e_cp, e_cvi, e_ex20, e_ex21, e_ex30, e_ex31, e_ex32, e_add, e_sub, e_mul, e_quo, e_rem, e_and, e_or, e_xor, e_shl, e_shr, e_eql, e_neq, e_lss, e_leq, e_gtr, e_geq, e_beq, e_bne, e_peq1, e_peq2, e_pne1, e_pne2, e_zeq1, e_zeq2, e_zne1, e_zne2, e_feq1, e_fne1, e_feq2, e_fne2, e_seq, e_sne, e_ta1, e_ta2, Nat.zero_add, Nat.add_zero, Bool.not_true, Bool.not_false]
      rw [wrap64_id (by omega) (by omega), show ((n : Nat) : Int) - 1 = ((n - 1 : Nat) : Int) by omega]
      refine ⟨n - 1, by omega, [(x + y + c') % 256] ++ S', (x + y + c') / 256, rfl, m4, ?_, hk3.trans hk4⟩
      have t1 : ∀ {l : List Int} (hn : n - 1 < l.length) (hl' : n ≤ l.length), (l.take n).drop (n - 1) = [l[n - 1]] := by
        intro l hn hl'
        obtain ⟨j, hj⟩ : ∃ j, n = j + 1 := ⟨n - 1, by omega⟩
        subst hj
        simp only [Nat.add_sub_cancel] at hn ⊢
        rw [List.take_add_one, List.getElem?_eq_getElem hn, List.drop_append_of_le_length (by rw [List.length_take]; omega), List.drop_of_length_le (by rw [List.length_take]; omega)]
        rfl
      have hgy : g ys (n - 1) = ys[n - 1]'(by omega) := g_get (by omega)
      refine AI.step (D := [(x + y + c') % 256]) hne.symm ai2' (by simp; omega) (fun q hq => by simp at hq; omega) (by omega) (s := (x + y + c') % 256) (by simp [val]) (a := x) (by rw [t1 (by omega) (by omega)]; simp [val, hxv]) (b := y) (by rw [t1 (by omega) (by omega), ← hgy, hyv]; simp [val]) ?_
      simp only [List.length_cons, List.length_nil, Nat.zero_add, Int.pow_one]
      omega
    · have hp' : ¬ (0 : Int) < ((n : Nat) : Int) := by omega
      simp only [hp', decide_false, e_fd, e_nck, e_pkt, e_pkf, e_gdtt, e_gdtf, e_gdft, e_gdff, e_ift, e_iff, e_not, e_ln, e_lnT, e_cp, e_cvi, e_ex20, e_ex21, e_ex30, e_ex31, e_ex32, e_add, e_sub, e_mul, e_quo, e_rem, e_and, e_or, e_xor, e_shl, e_shr, e_eql, e_neq, e_lss, e_leq, e_gtr, e_geq, e_beq, e_bne, e_peq1, e_peq2, e_pne1, e_pne2, e_zeq1, e_zeq2, e_zne1, e_zne2, e_feq1, e_fne1, e_feq2, e_fne2, e_seq, e_sne, e_ta1, e_ta2, Nat.zero_add, Nat.add_zero, Bool.not_true, Bool.not_false]
      have hn0 : n = 0 := by omega
      subst hn0
      unfold s40_p1
      rw [List.take_zero, List.nil_append] at m2
      rw [List.drop_zero, List.drop_zero] at a5
      refine bring_ok m2 (by omega) (by omega) (fun q => ?_) fun w5 zs m5 hlz hres hk5 hz5 => ?_
      · have hS : S' = [] := List.eq_nil_of_length_eq_zero q
        have hxe : xs = [] := List.eq_nil_of_length_eq_zero (by omega)
        have hye : ys = [] := List.eq_nil_of_length_eq_zero (by omega)
        subst hS; subst hxe; subst hye
        simp [val] at a5
        exact a5
      · -- the total, its carry brought round
        have hSl : S'.length = xs.length := by omega
        have hpw := pw_pos xs.length
        obtain ⟨t, ht, hT, hT1, hT2⟩ := hres
        rw [hSl] at hT a5
        refine hY hne w5 zs m5 (by omega) ⟨t + c', by omega, ?_, fun q => hT1 ?_, fun q => hT2 ?_⟩ (hk2.trans hk5) (by have := hk2.size; omega)
        · rw [← a5, Int.add_mul, Int.mul_sub c']
          omega
        · have r1 := (val_rng a3).1
          rcases a4 with q4 | q4
          · rw [q4] at a5 ⊢; omega
          · rw [q4]; omega
        · have r1 := (val_rng a3).1
          rcases a4 with q4 | q4
          · rw [q4] at a5 ⊢; omega
          · rw [q4] at a5
            omega
  -- the first loop
  unfold s40_p11
  refine ⟨fun n l w' => ∃ (S : List Int) (c : Int), l = [v, d, .int .u64 c, I (n : Nat)] ∧ Mv w' v ob o (xs.take n ++ S) pre post ∧ AI xs ys S n c ∧ Kp (fun k => ob = some k) w w',
    xs.length, ⟨[], 0, rfl, by rw [List.take_length, List.append_nil]; exact h, ⟨Nat.le_refl _, by simp, fun x hx => (by cases hx), .inl rfl, by rw [List.drop_length, hne, List.drop_length]; simp [val]⟩, Kp.refl _ _⟩, ?_⟩
  rintro n l w1 ⟨S, c, rfl, m1, ai, hk1⟩
  rw [s40_p11_Fe]
  unfold s40_p10
  try simp only [e_fd, e_nck, e_pkt, e_pkf, e_gdtt, e_gdtf, e_gdft, e_gdff, e_ift, e_iff, e_not, e_ln, e_lnT, e_cp, e_cvi, e_ex20, e_ex21, e_ex30, e_ex31, e_ex32, e_add, e_sub, e_mul, e_quo, e_rem, e_and, e_or, e_xor, e_shl, e_shr, e_eql, e_neq, e_lss, e_leq, e_gtr, e_geq, e_beq, e_bne, e_peq1, e_peq2, e_pne1, e_pne2, e_zeq1, e_zeq2, e_zne1, e_zne2, e_feq1, e_fne1, e_feq2, e_fne2, e_seq, e_sne, e_ta1, e_ta2, Nat.zero_add, Nat.add_zero, Bool.not_true, Bool.not_false]
  by_cases h8 : 8 ≤ n
  · have h8' : (8 : Int) ≤ ((n : Nat) : Int) := by omega
    simp only [h8', decide_true, e_fd, e_nck, e_pkt, e_pkf, e_gdtt, e_gdtf, e_gdft, e_gdff, e_ift, e_iff, e_not, e_ln, e_lnT, e_cp, e_cvi, e_ex20, e_ex21, e_ex30, e_ex31, e_ex32, e_add, e_sub, e_mul, e_quo, e_rem, e_and, e_or, e_xor, e_shl, e_shr, e_eql, e_neq, e_lss, e_leq, e_gtr, e_geq, e_beq, e_bne, e_peq1, e_peq2, e_pne1, e_pne2, e_zeq1, e_zeq2, e_zne1, e_zne2, e_feq1, e_fne1, e_feq2, e_fne2, e_seq, e_sne, e_ta1, e_ta2, Nat.zero_add, Nat.add_zero, Bool.not_true, Bool.not_false]
    have ai' := ai
    obtain ⟨a1, a2, a3, a4, a5⟩ := ai
    have hLl : (xs.take n ++ S).length = xs.length := by rw [List.length_append, List.length_take]; omega
    unfold s40_p9 s40_p9_d
    have k2 : Kp (fun _ => False) w1 (drw w1) := kp_drw
    generalize drw w1 = w2 at k2 ⊢
    have m2 := m1.kp' k2
    have hk2 : Kp (fun k => ob = some k) w w2 := hk1.then k2 (fun _ _ q => q.elim)
    try simp only [e_fd, e_nck, e_pkt, e_pkf, e_gdtt, e_gdtf, e_gdft, e_gdff, e_ift, e_iff, e_not, e_ln, e_lnT, e_cp, e_cvi, e_ex20, e_ex21, e_ex30, e_ex31, e_ex32, e_add, e_sub, e_mul, e_quo, e_rem, e_and, e_or, e_xor, e_shl, e_shr, e_eql, e_neq, e_lss, e_leq, e_gtr, e_geq, e_beq, e_bne, e_peq1, e_peq2, e_pne1, e_pne2, e_zeq1, e_zeq2, e_zne1, e_zne2, e_feq1, e_fne1, e_feq2, e_fne2, e_seq, e_sne, e_ta1, e_ta2, Nat.zero_add, Nat.add_zero, Bool.not_true, Bool.not_false]
    rw [wrap64_id (by omega) (by omega)]
    refine m2.from (e := n - 8) (by omega) (by omega) fun v1 mv1 _ => ?_
    try simp only [e_fd, e_nck, e_pkt, e_pkf, e_gdtt, e_gdtf, e_gdft, e_gdff, e_ift, e_iff, e_not, e_ln, e_lnT, e_cp, e_cvi, e_ex20, e_ex21, e_ex30, e_ex31, e_ex32, e_add, e_sub, e_mul, e_quo, e_rem, e_and, e_or, e_xor, e_shl, e_shr, e_eql, e_neq, e_lss, e_leq, e_gtr, e_geq, e_beq, e_bne, e_peq1, e_peq2, e_pne1, e_pne2, e_zeq1, e_zeq2, e_zne1, e_zne2, e_feq1, e_fne1, e_feq2, e_fne2, e_seq, e_sne, e_ta1, e_ta2, Nat.zero_add, Nat.add_zero, Bool.not_true, Bool.not_false]
    refine (hd w2 hk2).dropW (n - 8) (by omega) (by omega) (by omega) fun d1 hd1 => ?_
    refine BE64_ok mv1.bs (by rw [List.length_drop]; omega) fun w3 hk3 => ?_
    refine ⟨hk3.below', ?_⟩
    refine BE64_ok (hd1.kp' hk3) (by rw [List.length_drop]; omega) fun w4 hk4 => ?_
    have k24 : Kp (fun _ => False) w2 w4 := hk3.trans hk4
    have m4 := m2.kp' k24
    have hk4' : Kp (fun k => ob = some k) w w4 := hk2.then k24 (fun _ _ q => q.elim)
    have hA : be8 ((xs.take n ++ S).drop (n - 8)) = val ((xs.take n).drop (n - 8)) := by
      rw [be8_val (by rw [List.length_drop]; omega), List.drop_append_of_le_length (by rw [List.length_take]; omega), List.take_left' (by rw [List.length_drop, List.length_take]; omega)]
    have hB : be8 (ys.drop (n - 8)) = val ((ys.take n).drop (n - 8)) := by
      rw [be8_val (by rw [List.length_drop]; omega), drop_split (xs := ys) (e := n - 8) (i := n) (by omega) (by omega), List.take_left' (by rw [List.length_drop, List.length_take]; omega)]
    have ra := be8_rng mv1.bs.gb
    have rb := be8_rng hd1.gb
    generalize ha : be8 ((xs.take n ++ S).drop (n - 8)) = a at hA ra ⊢
    generalize hb : be8 (ys.drop (n - 8)) = b at hB rb ⊢
    unfold s40_p8
    try simp only [e_fd, e_nck, e_pkt, e_pkf, e_gdtt, e_gdtf, e_gdft, e_gdff, e_ift, e_iff, e_not, e_ln, e_lnT, e_cp, e_cvi, e_ex20, e_ex21, e_ex30, e_ex31, e_ex32, e_add, e_sub, e_mul, e_quo, e_rem, e_and, e_or, e_xor, e_shl, e_shr, e_eql, e_neq, e_lss, e_leq, e_gtr, e_geq, e_beq, e_bne, e_peq1, e_peq2, e_pne1, e_pne2, e_zeq1, e_zeq2, e_zne1, e_zne2, e_feq1, e_fne1, e_feq2, e_fne2, e_seq, e_sne, e_ta1, e_ta2, Nat.zero_add, Nat.add_zero, Bool.not_true, Bool.not_false]
    rw [wrapu64 (a + b), wrapu64 (_ + c)]
    have e8 : (256 : Int) ^ (dB8 0).length = 18446744073709551616 := by decide
    have cs : (a + b) % 18446744073709551616 < a ∨ (¬ (a + b) % 18446744073709551616 < a ∧ ((a + b) % 18446744073709551616 + c) % 18446744073709551616 < c) ∨ (¬ (a + b) % 18446744073709551616 < a ∧ ¬ ((a + b) % 18446744073709551616 + c) % 18446744073709551616 < c) := by omega
    generalize hs2 : ((a + b) % 18446744073709551616 + c) % 18446744073709551616 = s2 at cs ⊢
    rcases cs with q | q | q
    case' inl => simp only [q, decide_true, e_fd, e_nck, e_pkt, e_pkf, e_gdtt, e_gdtf, e_gdft, e_gdff, e_ift, e_iff, e_not, e_ln, e_lnT, e_cp, e_cvi, e_ex20, e_ex21, e_ex30, e_ex31, e_ex32, e_add, e_sub, e_mul, e_quo, e_rem, e_and, e_or, e_xor, e_shl, e_shr, e_eql, e_neq, e_lss, e_leq, e_gtr, e_geq, e_beq, e_bne, e_peq1, e_peq2, e_pne1, e_pne2, e_zeq1, e_zeq2, e_zne1, e_zne2, e_feq1, e_fne1, e_feq2, e_fne2, e_seq, e_sne, e_ta1, e_ta2, Nat.zero_add, Nat.add_zero, Bool.not_true, Bool.not_false]
    case' inr.inl => simp only [q.1, q.2, decide_true, decide_false, e_fd, e_nck, e_pkt, e_pkf, e_gdtt, e_gdtf, e_gdft, e_gdff, e_ift, e_iff, e_not, e_ln, e_lnT, e_cp, e_cvi, e_ex20, e_ex21, e_ex30, e_ex31, e_ex32, e_add, e_sub, e_mul, e_quo, e_rem, e_and, e_or, e_xor, e_shl, e_shr, e_eql, e_neq, e_lss, e_leq, e_gtr, e_geq, e_beq, e_bne, e_peq1, e_peq2, e_pne1, e_pne2, e_zeq1, e_zeq2, e_zne1, e_zne2, e_feq1, e_fne1, e_feq2, e_fne2, e_seq, e_sne, e_ta1, e_ta2, Nat.zero_add, Nat.add_zero, Bool.not_true, Bool.not_false]
    case' inr.inr => simp only [q.1, q.2, decide_false, e_fd, e_nck, e_pkt, e_pkf, e_gdtt, e_gdtf, e_gdft, e_gdff, e_ift, e_iff, e_not, e_ln, e_lnT, e_cp, e_cvi, e_ex20, e_ex21, e_ex30, e_ex31, e_ex32, e_add, e_sub, e_mul, e_quo, e_rem, e_and, e_or, e_xor, e_shl, e_shr, e_eql, e_neq, e_lss, e_leq, e_gtr, e_geq, e_beq, e_bne, e_peq1, e_peq2, e_pne1, e_pne2, e_zeq1, e_zeq2, e_zne1, e_zne2, e_feq1, e_fne1, e_feq2, e_fne2, e_seq, e_sne, e_ta1, e_ta2, Nat.zero_add, Nat.add_zero, Bool.not_true, Bool.not_false]
    all_goals
      rw [wrap64_id (by omega) (by omega)]
      refine m4.from (e := n - 8) (by omega) (by omega) fun v2 mv2 join2 => ?_
      refine mv2.put64 (by rw [List.length_drop]; omega) (by omega) fun w5 m5 hk5 hz5 => ?_
      have m6 := join2 m4 rfl m5 (by rw [List.length_append, List.length_drop, List.length_drop]; show 8 + _ = _; omega)
      have hL : (xs.take n ++ S).take (n - 8) ++ (dB8 s2 ++ ((xs.take n ++ S).drop (n - 8)).drop 8) = xs.take (n - 8) ++ (dB8 s2 ++ S) := by
        rw [List.take_append_of_le_length (by rw [List.length_take]; omega), List.take_take, Nat.min_eq_left (by omega), List.drop_drop, show n - 8 + 8 = n by omega, List.drop_left' (by rw [List.length_take]; omega)]
      rw [hL] at m6
      unfold s40_p7
      try simp only [e_fd, e_nck, e_pkt, e_pkf, e_gdtt, e_gdtf, e_gdft, e_gdff, e_ift, e_iff, e_not, e_ln, e_lnT, e_cp, e_cvi, e_ex20, e_ex21, e_ex30, e_ex31, e_ex32, e_add, e_sub, e_mul, e_quo, e_rem, e_and, e_or, e_xor, e_shl, e_shr, e_eql, e_neq, e_lss, e_leq, e_gtr, e_geq, e_beq, e_bne, e_peq1, e_peq2, e_pne1, e_pne2, e_zeq1, e_zeq2, e_zne1, e_zne2, e_feq1, e_fne1, e_feq2, e_fne2, e_seq, e_sne, e_ta1, e_ta2, Nat.zero_add, Nat.add_zero, Bool.not_true, Bool.not_false]
      rw [wrap64_id (by omega) (by omega), show ((n : Nat) : Int) - 8 = ((n - 8 : Nat) : Int) by omega]
      refine ⟨n - 8, by omega, dB8 s2 ++ S, _, rfl, m6, ?_, hk4'.trans hk5⟩
      refine AI.step (D := dB8 s2) (e := n - 8) hne.symm ai' (by show n - 8 + 8 = n; omega) (dB8_by _) (by omega) (val_dB8 (by omega) (by omega)) hA.symm hB.symm ?_
      show s2 + _ * 256 ^ 8 = a + b + c
      rw [show (256 : Int) ^ 8 = 18446744073709551616 from rfl]
      omega
  · have h8' : ¬ (8 : Int) ≤ ((n : Nat) : Int) := by omega
    simp only [h8', decide_false, e_fd, e_nck, e_pkt, e_pkf, e_gdtt, e_gdtf, e_gdft, e_gdff, e_ift, e_iff, e_not, e_ln, e_lnT, e_cp, e_cvi, e_ex20, e_ex21, e_ex30, e_ex31, e_ex32, e_add, e_sub, e_mul, e_quo, e_rem, e_and, e_or, e_xor, e_shl, e_shr, e_eql, e_neq, e_lss, e_leq, e_gtr, e_geq, e_beq, e_bne, e_peq1, e_peq2, e_pne1, e_pne2, e_zeq1, e_zeq2, e_zne1, e_zne2, e_feq1, e_fne1, e_feq2, e_fne2, e_seq, e_sne, e_ta1, e_ta2, Nat.zero_add, Nat.add_zero, Bool.not_true, Bool.not_false]
    exact second m1 ai hk1
end
end Go.Proofs.Qxb6500898a
