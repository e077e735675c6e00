import Derived.Test.Qxb6500898aV9
namespace Go.Proofs.Qxb6500898a
open Go.Sh Go.RowKit
set_option linter.unusedVariables false
set_option linter.unusedSimpArgs false

def bx (a b : Int) : Int := IntKind.u8.wrap (BitVec.ofInt IntKind.u8.bits a ^^^ BitVec.ofInt IntKind.u8.bits b).toNat
theorem bx_by (a b : Int) : 0 ≤ bx a b ∧ bx a b ≤ 255 := by unfold bx; rw [wrapu8]; omega
theorem nat_xor0 {a b : Nat} : a ^^^ b = 0 ↔ a = b := by
  constructor
  · intro h
    apply Nat.eq_of_testBit_eq
    intro i
    have := congrArg (fun x => x.testBit i) h
    simp only [Nat.testBit_xor, Nat.zero_testBit] at this
    cases ha : a.testBit i <;> cases hb : b.testBit i <;> simp_all
  · intro h; subst h; exact Nat.xor_self a
theorem bx_0 {a b : Int} (ha : 0 ≤ a ∧ a ≤ 255) (hb : 0 ≤ b ∧ b ≤ 255) : bx a b = 0 ↔ a = b := by
  obtain ⟨m, rfl⟩ : ∃ m : Nat, a = (m : Int) := ⟨a.toNat, by omega⟩
  obtain ⟨n, rfl⟩ : ∃ n : Nat, b = (n : Int) := ⟨b.toNat, by omega⟩
  unfold bx
  rw [wrapu8, BitVec.toNat_xor, of_u8 (by omega), of_u8 (by omega)]
  have hlt : m ^^^ n < 2 ^ 8 := Nat.xor_lt_two_pow (by omega) (by omega)
  have : ((m ^^^ n : Nat) : Int) % 256 = ((m ^^^ n : Nat) : Int) := by omega
  rw [this]
  constructor
  · intro h
    have : m = n := nat_xor0.1 (by omega)
    omega
  · intro h
    have : m ^^^ n = 0 := nat_xor0.2 (by omega)
    omega
theorem or_0 {a b : Int} (ha : 0 ≤ a ∧ a ≤ 255) (hb : 0 ≤ b ∧ b ≤ 255) : (0 ≤ IntKind.u8.wrap (BitVec.ofInt IntKind.u8.bits a ||| BitVec.ofInt IntKind.u8.bits b).toNat ∧ IntKind.u8.wrap (BitVec.ofInt IntKind.u8.bits a ||| BitVec.ofInt IntKind.u8.bits b).toNat ≤ 255) ∧ (IntKind.u8.wrap (BitVec.ofInt IntKind.u8.bits a ||| BitVec.ofInt IntKind.u8.bits b).toNat = 0 ↔ a = 0 ∧ b = 0) := by
  obtain ⟨m, rfl⟩ : ∃ m : Nat, a = (m : Int) := ⟨a.toNat, by omega⟩
  obtain ⟨n, rfl⟩ : ∃ n : Nat, b = (n : Int) := ⟨b.toNat, by omega⟩
  rw [wrapu8, BitVec.toNat_or, of_u8 (by omega), of_u8 (by omega)]
  have hlt : m ||| n < 2 ^ 8 := Nat.or_lt_two_pow (by omega) (by omega)
  have h1 : m ≤ m ||| n := Nat.left_le_or
  have h2 : n ≤ m ||| n := Nat.right_le_or
  refine ⟨by omega, ⟨fun h => by omega, fun h => ?_⟩⟩
  have e1 : m = 0 := by omega
  have e2 : n = 0 := by omega
  subst e1; subst e2
  rfl
/-- the first i octets are combined -/
def xorP (xs ys : List Int) (i : Nat) : List Int := (List.range xs.length).map (fun j => if j < i then bx (g xs j) (g ys j) else g xs j)
theorem xorP_len (xs ys : List Int) (i : Nat) : (xorP xs ys i).length = xs.length := by simp [xorP]
section
variable {w w' w2 : World} {v d : Value} {ob : Option Nat} {o : Nat} {xs ys zs : List Int} {pre post : List Value} {K : Value → World → Prop} {B1 : List Value → World → Prop} {k : World → Prop} {i e p n m : Nat} {z c : Int} {S : Nat → Prop}
theorem xorP_get {j : Nat} (hj : j < xs.length) (hj' : j < (xorP xs ys i).length) : (xorP xs ys i)[j] = if j < i then bx (g xs j) (g ys j) else g xs j := by simp [xorP]
theorem xorP_0 : xorP xs ys 0 = xs := by
  apply List.ext_getElem (xorP_len xs ys 0)
  intro j h1 h2
  rw [xorP_get h2 h1, if_neg (by omega), g_get h2]
theorem xorP_step (h1 : i < xs.length) : (xorP xs ys i).set i (bx (g xs i) (g ys i)) = xorP xs ys (i + 1) := by
  apply List.ext_getElem (by rw [List.length_set, xorP_len, xorP_len])
  intro j h2 h3
  rw [xorP_len] at h3
  rw [xorP_get h3]
  by_cases e : i = j
  · subst e; rw [List.getElem_set_self, if_pos (by omega)]
  · rw [List.getElem_set_ne e, xorP_get h3]
    by_cases c : j < i
    · rw [if_pos c, if_pos (by omega)]
    · rw [if_neg c, if_neg (by omega)]
theorem min3_r {a b c : Int} (hK : K (I (if c < (if b < a then b else a) then c else (if b < a then b else a))) w) : rs Try.prog (Builtin.min_ #[3, 3, 3] 3 #[I a, I b, I c]) K w :=
  rs_ok (v := _) (w' := w) rfl hK
theorem xor_ok (h : Mv w v ob o xs pre post) (hd : ∀ w', Kp (fun k => ob = some k) w w' → Bs w' d ys) (hyl : ys.length ≤ 1000000000000)
    (hK : ∀ w', Mv w' v ob o (xorP xs ys (min xs.length ys.length)) pre post → Kp (fun k => ob = some k) w w' → K (I (min xs.length ys.length : Nat)) w') : cl Try.prog 42 #[v, v, d] K w := by
  have hl := h.len
  have hd0 := hd w (Kp.refl _ _)
  apply c42
  unfold s42_p6
  refine h.ln ?_
  refine h.ln ?_
  refine hd0.ln ?_
  refine min3_r ?_
  have em : (if ((ys.length : Nat) : Int) < (if ((xs.length : Nat) : Int) < ((xs.length : Nat) : Int) then ((xs.length : Nat) : Int) else ((xs.length : Nat) : Int)) then ((ys.length : Nat) : Int) else (if ((xs.length : Nat) : Int) < ((xs.length : Nat) : Int) then ((xs.length : Nat) : Int) else ((xs.length : Nat) : Int))) = ((min xs.length ys.length : Nat) : Int) := by
    simp only [Int.lt_irrefl, if_false]
    split <;> omega
  rw [em]
  obtain ⟨n, hn⟩ : ∃ n, n = min xs.length ys.length := ⟨_, rfl⟩
  rw [← hn] at hK ⊢
  unfold s42_p5
  refine ⟨fun q l w' => ∃ i : Nat, q + i = n ∧ l = [v, v, d, I (n : Nat), I (i : Nat)] ∧ Mv w' v ob o (xorP xs ys i) pre post ∧ Kp (fun k => ob = some k) w w', n, ⟨0, rfl, rfl, by rw [xorP_0]; exact h, Kp.refl _ _⟩, ?_⟩
  rintro q l w1 ⟨i, hq, rfl, m1, hk1⟩
  rw [s42_p5_Fe]
  unfold s42_p4
  try simp only [e_fd, e_nck, e_pkt, e_pkf, e_gdtt, e_gdtf, e_gdft, e_gdff, e_ift, e_iff, e_not, e_ln, e_lnT, e_cp, e_cvi, e_ex20, e_ex21, e_ex30, e_ex31, e_ex32, e_add, e_sub, e_mul, e_quo, e_rem, e_and, e_or, e_xor, e_shl, e_shr, e_eql, e_neq, e_lss, e_leq, e_gtr, e_geq, e_beq, e_bne, e_peq1, e_peq2, e_pne1, e_pne2, e_zeq1, e_zeq2, e_zne1, e_zne2, e_feq1, e_fne1, e_feq2, e_fne2, e_seq, e_sne, e_ta1, e_ta2, Nat.zero_add, Nat.add_zero, Bool.not_true, Bool.not_false]
  by_cases hi : i < n
  · have hi' : ((i : Nat) : Int) < ((n : Nat) : Int) := by omega
    simp only [hi', decide_true, e_fd, e_nck, e_pkt, e_pkf, e_gdtt, e_gdtf, e_gdft, e_gdff, e_ift, e_iff, e_not, e_ln, e_lnT, e_cp, e_cvi, e_ex20, e_ex21, e_ex30, e_ex31, e_ex32, e_add, e_sub, e_mul, e_quo, e_rem, e_and, e_or, e_xor, e_shl, e_shr, e_eql, e_neq, e_lss, e_leq, e_gtr, e_geq, e_beq, e_bne, e_peq1, e_peq2, e_pne1, e_pne2, e_zeq1, e_zeq2, e_zne1, e_zne2, e_feq1, e_fne1, e_feq2, e_fne2, e_seq, e_sne, e_ta1, e_ta2, Nat.zero_add, Nat.add_zero, Bool.not_true, Bool.not_false]
    unfold s42_p3 s42_p3_d
    have k2 : Kp (fun _ => False) w1 (drw w1) := kp_drw
    generalize drw w1 = w2 at k2 ⊢
    have m2 := m1.kp' k2
    have hk2 : Kp (fun k => ob = some k) w w2 := hk1.then k2 (fun _ _ q => q.elim)
    have hxl := xorP_len xs ys i
    refine m2.get (i := i) (by omega) rfl ?_
    rw [xorP_get (by omega), if_neg (by omega)]
    refine (hd w2 hk2).ixg i rfl (by omega) fun b' q' hld => hld _ ?_
    try simp only [e_fd, e_nck, e_pkt, e_pkf, e_gdtt, e_gdtf, e_gdft, e_gdff, e_ift, e_iff, e_not, e_ln, e_lnT, e_cp, e_cvi, e_ex20, e_ex21, e_ex30, e_ex31, e_ex32, e_add, e_sub, e_mul, e_quo, e_rem, e_and, e_or, e_xor, e_shl, e_shr, e_eql, e_neq, e_lss, e_leq, e_gtr, e_geq, e_beq, e_bne, e_peq1, e_peq2, e_pne1, e_pne2, e_zeq1, e_zeq2, e_zne1, e_zne2, e_feq1, e_fne1, e_feq2, e_fne2, e_seq, e_sne, e_ta1, e_ta2, Nat.zero_add, Nat.add_zero, Bool.not_true, Bool.not_false]
    refine m2.ix (i := i) (by omega) rfl fun pp _ hst => ?_
    refine hst m2 rfl (bx_by _ _) fun w3 m3 hk3 hz3 => ?_
    rw [show IntKind.u8.wrap (BitVec.ofInt IntKind.u8.bits (g xs i) ^^^ BitVec.ofInt IntKind.u8.bits (g ys i)).toNat = bx (g xs i) (g ys i) from rfl, xorP_step (by omega)] at m3
    unfold s42_p2
    try simp only [e_fd, e_nck, e_pkt, e_pkf, e_gdtt, e_gdtf, e_gdft, e_gdff, e_ift, e_iff, e_not, e_ln, e_lnT, e_cp, e_cvi, e_ex20, e_ex21, e_ex30, e_ex31, e_ex32, e_add, e_sub, e_mul, e_quo, e_rem, e_and, e_or, e_xor, e_shl, e_shr, e_eql, e_neq, e_lss, e_leq, e_gtr, e_geq, e_beq, e_bne, e_peq1, e_peq2, e_pne1, e_pne2, e_zeq1, e_zeq2, e_zne1, e_zne2, e_feq1, e_fne1, e_feq2, e_fne2, e_seq, e_sne, e_ta1, e_ta2, Nat.zero_add, Nat.add_zero, Bool.not_true, Bool.not_false]
    rw [wrap64_id (by omega) (by omega)]
    exact ⟨q - 1, by omega, i + 1, by omega, by simp, m3, hk2.trans hk3⟩
  · have hi' : ¬ ((i : Nat) : Int) < ((n : Nat) : Int) := by omega
    simp only [hi', decide_false, e_fd, e_nck, e_pkt, e_pkf, e_gdtt, e_gdtf, e_gdft, e_gdff, e_ift, e_iff, e_not, e_ln, e_lnT, e_cp, e_cvi, e_ex20, e_ex21, e_ex30, e_ex31, e_ex32, e_add, e_sub, e_mul, e_quo, e_rem, e_and, e_or, e_xor, e_shl, e_shr, e_eql, e_neq, e_lss, e_leq, e_gtr, e_geq, e_beq, e_bne, e_peq1, e_peq2, e_pne1, e_pne2, e_zeq1, e_zeq2, e_zne1, e_zne2, e_feq1, e_fne1, e_feq2, e_fne2, e_seq, e_sne, e_ta1, e_ta2, Nat.zero_add, Nat.add_zero, Bool.not_true, Bool.not_false]
    unfold s42_p1
    have : i = n := by omega
    rw [this] at m1
    exact hK w1 m1 hk1
theorem take_ext_succ (h : xs.take i = ys.take i) (hx : i < xs.length) (hy : i < ys.length) : (xs.take (i + 1) = ys.take (i + 1)) ↔ g xs i = g ys i := by
  rw [List.take_add_one, List.take_add_one, List.getElem?_eq_getElem hx, List.getElem?_eq_getElem hy, h, g_get hx, g_get hy]
  constructor
  · intro q
    have := List.append_cancel_left q
    simpa using this
  · intro q; rw [q]
theorem equal_ok (h1 : Bs w v xs) (h2 : Bs w d ys) (hxl : xs.length ≤ 1000000000000) (hK : ∀ w', Kp (fun _ => False) w w' → K (.bool (decide (xs = ys))) w') : cl Try.prog 43 #[v, d] K w := by
  apply c43
  unfold s43_p7
  refine h1.ln ?_
  refine h2.ln ?_
  try simp only [e_fd, e_nck, e_pkt, e_pkf, e_gdtt, e_gdtf, e_gdft, e_gdff, e_ift, e_iff, e_not, e_ln, e_lnT, e_cp, e_cvi, e_ex20, e_ex21, e_ex30, e_ex31, e_ex32, e_add, e_sub, e_mul, e_quo, e_rem, e_and, e_or, e_xor, e_shl, e_shr, e_eql, e_neq, e_lss, e_leq, e_gtr, e_geq, e_beq, e_bne, e_peq1, e_peq2, e_pne1, e_pne2, e_zeq1, e_zeq2, e_zne1, e_zne2, e_feq1, e_fne1, e_feq2, e_fne2, e_seq, e_sne, e_ta1, e_ta2, Nat.zero_add, Nat.add_zero, Bool.not_true, Bool.not_false]
  by_cases hne : ¬ xs.length = ys.length
  · have e : (((xs.length : Nat) : Int) != ((ys.length : Nat) : Int)) = true := by rw [bne_iff_ne]; omega
    simp only [e, e_fd, e_nck, e_pkt, e_pkf, e_gdtt, e_gdtf, e_gdft, e_gdff, e_ift, e_iff, e_not, e_ln, e_lnT, e_cp, e_cvi, e_ex20, e_ex21, e_ex30, e_ex31, e_ex32, e_add, e_sub, e_mul, e_quo, e_rem, e_and, e_or, e_xor, e_shl, e_shr, e_eql, e_neq, e_lss, e_leq, e_gtr, e_geq, e_beq, e_bne, e_peq1, e_peq2, e_pne1, e_pne2, e_zeq1, e_zeq2, e_zne1, e_zne2, e_feq1, e_fne1, e_feq2, e_fne2, e_seq, e_sne, e_ta1, e_ta2, Nat.zero_add, Nat.add_zero, Bool.not_true, Bool.not_false]
    have := hK w (Kp.refl _ _)
    rw [decide_eq_false (fun q => hne (by rw [q]))] at this
    exact this
  have hl : xs.length = ys.length := Decidable.not_not.1 hne
  have e : (((xs.length : Nat) : Int) != ((ys.length : Nat) : Int)) = false := by rw [hl]; exact bne_self_eq_false _
  simp only [e, e_fd, e_nck, e_pkt, e_pkf, e_gdtt, e_gdtf, e_gdft, e_gdff, e_ift, e_iff, e_not, e_ln, e_lnT, e_cp, e_cvi, e_ex20, e_ex21, e_ex30, e_ex31, e_ex32, e_add, e_sub, e_mul, e_quo, e_rem, e_and, e_or, e_xor, e_shl, e_shr, e_eql, e_neq, e_lss, e_leq, e_gtr, e_geq, e_beq, e_bne, e_peq1, e_peq2, e_pne1, e_pne2, e_zeq1, e_zeq2, e_zne1, e_zne2, e_feq1, e_fne1, e_feq2, e_fne2, e_seq, e_sne, e_ta1, e_ta2, Nat.zero_add, Nat.add_zero, Bool.not_true, Bool.not_false]
  refine h1.ln ?_
  unfold s43_p6
  refine ⟨fun q l w' => ∃ (i : Nat) (df : Int), q + i = xs.length ∧ l = [v, d, .int .u8 df, I xs.length, I (i : Nat)] ∧ (0 ≤ df ∧ df ≤ 255) ∧ (df = 0 ↔ xs.take i = ys.take i) ∧ Kp (fun _ => False) w w', xs.length, ⟨0, 0, rfl, rfl, by decide, by simp, Kp.refl _ _⟩, ?_⟩
  rintro q l w1 ⟨i, df, hq, rfl, hdf, hiff, hk1⟩
  rw [s43_p6_Fe]
  unfold s43_p5
  try simp only [e_fd, e_nck, e_pkt, e_pkf, e_gdtt, e_gdtf, e_gdft, e_gdff, e_ift, e_iff, e_not, e_ln, e_lnT, e_cp, e_cvi, e_ex20, e_ex21, e_ex30, e_ex31, e_ex32, e_add, e_sub, e_mul, e_quo, e_rem, e_and, e_or, e_xor, e_shl, e_shr, e_eql, e_neq, e_lss, e_leq, e_gtr, e_geq, e_beq, e_bne, e_peq1, e_peq2, e_pne1, e_pne2, e_zeq1, e_zeq2, e_zne1, e_zne2, e_feq1, e_fne1, e_feq2, e_fne2, e_seq, e_sne, e_ta1, e_ta2, Nat.zero_add, Nat.add_zero, Bool.not_true, Bool.not_false]
  by_cases hi : i < xs.length
  · have hi' : ((i : Nat) : Int) < ((xs.length : Nat) : Int) := by omega
    simp only [hi', decide_true, e_fd, e_nck, e_pkt, e_pkf, e_gdtt, e_gdtf, e_gdft, e_gdff, e_ift, e_iff, e_not, e_ln, e_lnT, e_cp, e_cvi, e_ex20, e_ex21, e_ex30, e_ex31, e_ex32, e_add, e_sub, e_mul, e_quo, e_rem, e_and, e_or, e_xor, e_shl, e_shr, e_eql, e_neq, e_lss, e_leq, e_gtr, e_geq, e_beq, e_bne, e_peq1, e_peq2, e_pne1, e_pne2, e_zeq1, e_zeq2, e_zne1, e_zne2, e_feq1, e_fne1, e_feq2, e_fne2, e_seq, e_sne, e_ta1, e_ta2, Nat.zero_add, Nat.add_zero, Bool.not_true, Bool.not_false]
    unfold s43_p4 s43_p3 s43_p3_d
    have k2 : Kp (fun _ => False) w (drw w1) := hk1.trans kp_drw
    generalize drw w1 = w2 at k2 ⊢
    refine (h1.kp' k2).ixg i rfl hi fun b' q' hld => hld _ ?_
    refine (h2.kp' k2).ixg i rfl (by omega) fun b'' q'' hld' => hld' _ ?_
    try simp only [e_fd, e_nck, e_pkt, e_pkf, e_gdtt, e_gdtf, e_gdft, e_gdff, e_ift, e_iff, e_not, e_ln, e_lnT, e_cp, e_cvi, e_ex20, e_ex21, e_ex30, e_ex31, e_ex32, e_add, e_sub, e_mul, e_quo, e_rem, e_and, e_or, e_xor, e_shl, e_shr, e_eql, e_neq, e_lss, e_leq, e_gtr, e_geq, e_beq, e_bne, e_peq1, e_peq2, e_pne1, e_pne2, e_zeq1, e_zeq2, e_zne1, e_zne2, e_feq1, e_fne1, e_feq2, e_fne2, e_seq, e_sne, e_ta1, e_ta2, Nat.zero_add, Nat.add_zero, Bool.not_true, Bool.not_false]
    refine ⟨Below.refl _ _, ?_⟩
    have gx := h1.gb i
    have gy := h2.gb i
    have hor := or_0 hdf (bx_by (g xs i) (g ys i))
    unfold s43_p2
    try simp only [e_fd, e_nck, e_pkt, e_pkf, e_gdtt, e_gdtf, e_gdft, e_gdff, e_ift, e_iff, e_not, e_ln, e_lnT, e_cp, e_cvi, e_ex20, e_ex21, e_ex30, e_ex31, e_ex32, e_add, e_sub, e_mul, e_quo, e_rem, e_and, e_or, e_xor, e_shl, e_shr, e_eql, e_neq, e_lss, e_leq, e_gtr, e_geq, e_beq, e_bne, e_peq1, e_peq2, e_pne1, e_pne2, e_zeq1, e_zeq2, e_zne1, e_zne2, e_feq1, e_fne1, e_feq2, e_fne2, e_seq, e_sne, e_ta1, e_ta2, Nat.zero_add, Nat.add_zero, Bool.not_true, Bool.not_false]
    rw [wrap64_id (by omega) (by omega)]
    refine ⟨q - 1, by omega, i + 1, _, by omega, rfl, hor.1, ?_, k2⟩
    rw [show BitVec.ofInt IntKind.u8.bits (IntKind.u8.wrap (BitVec.ofInt IntKind.u8.bits (g xs i) ^^^ BitVec.ofInt IntKind.u8.bits (g ys i)).toNat) = BitVec.ofInt IntKind.u8.bits (bx (g xs i) (g ys i)) from rfl, hor.2, bx_0 gx gy, hiff]
    constructor
    · rintro ⟨a, b⟩
      exact (take_ext_succ a hi (by omega)).2 b
    · intro a
      have a' : xs.take i = ys.take i := by
        have := congrArg (List.take i) a
        rw [List.take_take, List.take_take, Nat.min_eq_left (by omega)] at this; exact this
      exact ⟨a', (take_ext_succ a' hi (by omega)).1 a⟩
  · have hi' : ¬ ((i : Nat) : Int) < ((xs.length : Nat) : Int) := by omega
    simp only [hi', decide_false, e_fd, e_nck, e_pkt, e_pkf, e_gdtt, e_gdtf, e_gdft, e_gdff, e_ift, e_iff, e_not, e_ln, e_lnT, e_cp, e_cvi, e_ex20, e_ex21, e_ex30, e_ex31, e_ex32, e_add, e_sub, e_mul, e_quo, e_rem, e_and, e_or, e_xor, e_shl, e_shr, e_eql, e_neq, e_lss, e_leq, e_gtr, e_geq, e_beq, e_bne, e_peq1, e_peq2, e_pne1, e_pne2, e_zeq1, e_zeq2, e_zne1, e_zne2, e_feq1, e_fne1, e_feq2, e_fne2, e_seq, e_sne, e_ta1, e_ta2, Nat.zero_add, Nat.add_zero, Bool.not_true, Bool.not_false]
    unfold s43_p1
    try simp only [e_fd, e_nck, e_pkt, e_pkf, e_gdtt, e_gdtf, e_gdft, e_gdff, e_ift, e_iff, e_not, e_ln, e_lnT, e_cp, e_cvi, e_ex20, e_ex21, e_ex30, e_ex31, e_ex32, e_add, e_sub, e_mul, e_quo, e_rem, e_and, e_or, e_xor, e_shl, e_shr, e_eql, e_neq, e_lss, e_leq, e_gtr, e_geq, e_beq, e_bne, e_peq1, e_peq2, e_pne1, e_pne2, e_zeq1, e_zeq2, e_zne1, e_zne2, e_feq1, e_fne1, e_feq2, e_fne2, e_seq, e_sne, e_ta1, e_ta2, Nat.zero_add, Nat.add_zero, Bool.not_true, Bool.not_false]
    have hK := hK w1 hk1
    rw [List.take_of_length_le (by omega), List.take_of_length_le (by omega)] at hiff
    by_cases q0 : df = 0
    · have e : (df == 0) = true := by rw [q0]; rfl
      rw [e]
      rw [decide_eq_true (hiff.1 q0)] at hK; exact hK
    · have e : (df == 0) = false := by rw [beq_eq_false_iff_ne]; exact q0
      rw [e]
      rw [decide_eq_false (fun q => q0 (hiff.2 q))] at hK; exact hK
theorem allZero_ok (h1 : Bs w v xs) (hxl : xs.length ≤ 1000000000000) (hK : K (.bool (decide (∀ x ∈ xs, x = 0))) w) : cl Try.prog 63 #[v] K w := by
  apply c63
  unfold s63_p4
  refine h1.ln ?_
  unfold s63_p3
  refine ⟨fun q l w' => w' = w ∧ ∃ (i : Nat) (df : Int), q + i = xs.length ∧ l = [.int .u8 df, v, I xs.length, I (i : Nat)] ∧ (0 ≤ df ∧ df ≤ 255) ∧ (df = 0 ↔ ∀ x ∈ xs.take i, x = 0), xs.length, ⟨rfl, 0, 0, rfl, rfl, by decide, by simp⟩, ?_⟩
  rintro q l w1 ⟨rfl, i, df, hq, rfl, hdf, hiff⟩
  rw [s63_p3_Fe]
  unfold s63_p2
  try simp only [e_fd, e_nck, e_pkt, e_pkf, e_gdtt, e_gdtf, e_gdft, e_gdff, e_ift, e_iff, e_not, e_ln, e_lnT, e_cp, e_cvi, e_ex20, e_ex21, e_ex30, e_ex31, e_ex32, e_add, e_sub, e_mul, e_quo, e_rem, e_and, e_or, e_xor, e_shl, e_shr, e_eql, e_neq, e_lss, e_leq, e_gtr, e_geq, e_beq, e_bne, e_peq1, e_peq2, e_pne1, e_pne2, e_zeq1, e_zeq2, e_zne1, e_zne2, e_feq1, e_fne1, e_feq2, e_fne2, e_seq, e_sne, e_ta1, e_ta2, Nat.zero_add, Nat.add_zero, Bool.not_true, Bool.not_false]
  by_cases hi : i < xs.length
  · have hi' : ((i : Nat) : Int) < ((xs.length : Nat) : Int) := by omega
    simp only [hi', decide_true, e_fd, e_nck, e_pkt, e_pkf, e_gdtt, e_gdtf, e_gdft, e_gdff, e_ift, e_iff, e_not, e_ln, e_lnT, e_cp, e_cvi, e_ex20, e_ex21, e_ex30, e_ex31, e_ex32, e_add, e_sub, e_mul, e_quo, e_rem, e_and, e_or, e_xor, e_shl, e_shr, e_eql, e_neq, e_lss, e_leq, e_gtr, e_geq, e_beq, e_bne, e_peq1, e_peq2, e_pne1, e_pne2, e_zeq1, e_zeq2, e_zne1, e_zne2, e_feq1, e_fne1, e_feq2, e_fne2, e_seq, e_sne, e_ta1, e_ta2, Nat.zero_add, Nat.add_zero, Bool.not_true, Bool.not_false]
    refine h1.ixg i rfl hi fun b' q' hld => hld _ ?_
    try simp only [e_fd, e_nck, e_pkt, e_pkf, e_gdtt, e_gdtf, e_gdft, e_gdff, e_ift, e_iff, e_not, e_ln, e_lnT, e_cp, e_cvi, e_ex20, e_ex21, e_ex30, e_ex31, e_ex32, e_add, e_sub, e_mul, e_quo, e_rem, e_and, e_or, e_xor, e_shl, e_shr, e_eql, e_neq, e_lss, e_leq, e_gtr, e_geq, e_beq, e_bne, e_peq1, e_peq2, e_pne1, e_pne2, e_zeq1, e_zeq2, e_zne1, e_zne2, e_feq1, e_fne1, e_feq2, e_fne2, e_seq, e_sne, e_ta1, e_ta2, Nat.zero_add, Nat.add_zero, Bool.not_true, Bool.not_false]
    have gx := h1.gb i
    have hor := or_0 hdf gx
    rw [wrap64_id (by omega) (by omega)]
    refine ⟨q - 1, by omega, by trivial, i + 1, _, by omega, rfl, hor.1, ?_⟩
    rw [hor.2, hiff, List.take_add_one, List.getElem?_eq_getElem hi, g_get hi]
    constructor
    · rintro ⟨a, b⟩ x hx
      rcases List.mem_append.1 hx with q | q
      · exact a x q
      · simp at q; rw [q]; exact b
    · intro a
      exact ⟨fun x hx => a x (List.mem_append.2 (.inl hx)), a _ (List.mem_append.2 (.inr (by simp)))⟩
  · have hi' : ¬ ((i : Nat) : Int) < ((xs.length : Nat) : Int) := by omega
    simp only [hi', decide_false, e_fd, e_nck, e_pkt, e_pkf, e_gdtt, e_gdtf, e_gdft, e_gdff, e_ift, e_iff, e_not, e_ln, e_lnT, e_cp, e_cvi, e_ex20, e_ex21, e_ex30, e_ex31, e_ex32, e_add, e_sub, e_mul, e_quo, e_rem, e_and, e_or, e_xor, e_shl, e_shr, e_eql, e_neq, e_lss, e_leq, e_gtr, e_geq, e_beq, e_bne, e_peq1, e_peq2, e_pne1, e_pne2, e_zeq1, e_zeq2, e_zne1, e_zne2, e_feq1, e_fne1, e_feq2, e_fne2, e_seq, e_sne, e_ta1, e_ta2, Nat.zero_add, Nat.add_zero, Bool.not_true, Bool.not_false]
    unfold s63_p1
    try simp only [e_fd, e_nck, e_pkt, e_pkf, e_gdtt, e_gdtf, e_gdft, e_gdff, e_ift, e_iff, e_not, e_ln, e_lnT, e_cp, e_cvi, e_ex20, e_ex21, e_ex30, e_ex31, e_ex32, e_add, e_sub, e_mul, e_quo, e_rem, e_and, e_or, e_xor, e_shl, e_shr, e_eql, e_neq, e_lss, e_leq, e_gtr, e_geq, e_beq, e_bne, e_peq1, e_peq2, e_pne1, e_pne2, e_zeq1, e_zeq2, e_zne1, e_zne2, e_feq1, e_fne1, e_feq2, e_fne2, e_seq, e_sne, e_ta1, e_ta2, Nat.zero_add, Nat.add_zero, Bool.not_true, Bool.not_false]
    rw [List.take_of_length_le (by omega)] at hiff
    by_cases q0 : df = 0
    · have e : (df == 0) = true := by rw [q0]; rfl
      rw [e]
      rw [decide_eq_true (hiff.1 q0)] at hK; exact hK
    · have e : (df == 0) = false := by rw [beq_eq_false_iff_ne]; exact q0
      rw [e]
      rw [decide_eq_false (fun q => q0 (hiff.2 q))] at hK; exact hK
end
end Go.Proofs.Qxb6500898a
