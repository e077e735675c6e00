import Derived.Test.Qxb6500896aGreatK4
namespace Go.Proofs.Qxb6500896aGreat
open Go.Sh Go.RowKit
set_option linter.unusedVariables false
set_option linter.unusedSimpArgs false

/-- a block that is there and is not written -/
def Im (M : Nat → Prop) (w : World) (b : Nat) : Prop := ¬ M b ∧ b < w.heap.size
/-- the set of written blocks grows by new blocks alone -/
structure Ext (M M' : Nat → Prop) (w w' : World) : Prop where
  sub : ∀ b, M b → M' b
  new : ∀ b, M' b → M b ∨ w.heap.size ≤ b
  sz : w.heap.size ≤ w'.heap.size
  lt : ∀ b, M' b → b < w'.heap.size
abbrev Ai {α : Type} (f : α → List Value) (k : Nat) (M : Nat → Prop) (w : World) (v : Value) (xs : List α) : Prop := Ar f k (Im M w) w v xs
section
variable {α : Type} {f : α → List Value} {k : Nat} {M M' M'' S : Nat → Prop} {w w' w'' : World} {v : Value} {xs : List α} {b : Nat} {e : TypeId} {ob : Option Nat}
theorem Im.ext (h : Im M w b) (hx : Ext M M' w w') : Im M' w' b := by
  refine ⟨fun q => ?_, by have := h.2; have := hx.sz; omega⟩
  rcases hx.new b q with q | q
  · exact h.1 q
  · have := h.2; omega
theorem Im.kp (h : Im M w b) (hk : Kp S w w') : Im M w' b := ⟨h.1, by have := h.2; have := hk.size; omega⟩
theorem Ext.trans (h : Ext M M' w w') (h' : Ext M' M'' w' w'') : Ext M M'' w w'' :=
  ⟨fun b q => h'.sub b (h.sub b q), fun b q => by
    rcases h'.new b q with q | q
    · exact h.new b q
    · have := h.sz; exact .inr (by omega), by have := h.sz; have := h'.sz; omega, h'.lt⟩
theorem Ext.same (hM : ∀ b, M b → b < w.heap.size) (hk : Kp S w w') : Ext M M w w' := ⟨fun _ q => q, fun _ q => .inl q, hk.size, fun b q => by have := hM b q; have := hk.size; omega⟩
/-- one more written block -/
theorem Ext.add (hM : ∀ b, M b → b < w.heap.size) (hk : Kp S w w') {m : Nat} (h1 : w.heap.size ≤ m) (h2 : m < w'.heap.size) : Ext M (fun b => M b ∨ b = m) w w' :=
  ⟨fun _ q => .inl q, fun b q => q.elim .inl (fun e => .inr (by omega)), hk.size, fun b q => q.elim (fun q => by have := hM b q; have := hk.size; omega) (fun e => by omega)⟩
theorem Ext.add? (hM : ∀ b, M b → b < w.heap.size) (hk : Kp S w w') {mo : Option Nat} (h : ∀ m, mo = some m → M m ∨ w.heap.size ≤ m) (h2 : ∀ m, mo = some m → m < w'.heap.size) : Ext M (fun b => M b ∨ mo = some b) w w' :=
  ⟨fun _ q => .inl q, fun b q => q.elim .inl (fun e => h b e), hk.size, fun b q => q.elim (fun q => by have := hM b q; have := hk.size; omega) (fun e => h2 b e)⟩
theorem Ai.ext (h : Ai f k M w v xs) (hx : Ext M M' w w') (hk : Kp S w w') (hS : ∀ b, S b → b < w.heap.size → M b) : Ai f k M' w' v xs :=
  (h.kp hk fun b hb q => hb.1 (hS b q hb.2)).mono fun b hb => hb.ext hx
theorem Ai.kp (h : Ai f k M w v xs) (hk : Kp S w w') (hS : ∀ b, S b → b < w.heap.size → M b) : Ai f k M w' v xs :=
  (Ar.kp h hk fun b hb q => hb.1 (hS b q hb.2)).mono fun b hb => hb.kp hk
theorem Ai.kp' (h : Ai f k M w v xs) (hk : Kp Emp w w') : Ai f k M w' v xs := Ai.kp h hk fun _ q => q.elim
/-- what is new and is not among the written blocks -/
theorem Ai.nb (h : Ar f k (Nb w w') w' v xs) (hM : ∀ b, M b → b < w.heap.size) : Ai f k M w' v xs :=
  h.mono fun b hb => ⟨fun q => by have := hM b q; have := hb.1; omega, hb.2⟩
end

structure Jr where
  mr : Int
  cp : Int
  ms : Int
  has : Bool
  snap : List Int
  log : List (List Int)
  safe : Nat
  off : Bool
  left : Int
  keep : Int
def Jr.cells (J : Jr) (sv lv : Value) : List Value := [I J.mr, I J.cp, I J.ms, .bool J.has, sv, lv, I (J.safe : Nat), .bool J.off, I J.left, I J.keep]
/-- what the log takes -/
def tot (log : List (List Int)) : Nat := (log.map fun e => e.length + 6).sum
structure Jr.Ok (J : Jr) : Prop where
  safe : J.safe ≤ J.log.length
  l0 : 0 ≤ J.left
  l1 : J.left ≤ 9223372036854775807
  tot : tot J.log ≤ 1099511627776
  cp : small J.cp
  len : J.log.length ≤ 1099511627776
/-- the entries of a log -/
def Lg (M : Nat → Prop) (w : World) (lob : Option Nat) (lv : Value) (log : List (List Int)) : Prop :=
  ∃ evs, Sl one 1 w 37 lob lv evs ∧ (∀ b, lob = some b → M b) ∧ evs.length = log.length ∧ ∀ i (h1 : i < evs.length) (h2 : i < log.length), Ai bC 1 M w evs[i] log[i]
/-- a journal in memory -/
structure Jn (M : Nat → Prop) (w : World) (j : Nat) (lob : Option Nat) (J : Jr) : Prop where
  ex : ∃ sv lv, Row w j 67 (J.cells sv lv) ∧ Ai bC 1 M w sv J.snap ∧ Lg M w lob lv J.log
  mj : M j
  ok : J.Ok
  lt : ∀ b, M b → b < w.heap.size
abbrev OwnJ (j : Nat) (lob : Option Nat) (b : Nat) : Prop := b = j ∨ lob = some b
section
variable {M M' S : Nat → Prop} {w w' w1 : World} {v lv sv : Value} {j : Nat} {lob : Option Nat} {J : Jr} {log : List (List Int)} {K : Value → World → Prop} {xs : List Int}
theorem Lg.ext (h : Lg M w lob lv log) (hx : Ext M M' w w') (hk : Kp S w w') (hS : ∀ b, S b → b < w.heap.size → M b) (hl : ∀ b, lob = some b → ¬ S b) : Lg M' w' lob lv log := by
  obtain ⟨evs, h1, h2, h3, h4⟩ := h
  exact ⟨evs, h1.kp hk hl, fun b e => hx.sub b (h2 b e), h3, fun i a b => (h4 i a b).ext hx hk hS⟩
theorem Jn.ext (h : Jn M w j lob J) (hx : Ext M M' w w') (hk : Kp S w w') (hS : ∀ b, S b → b < w.heap.size → M b) (hn : ∀ b, OwnJ j lob b → ¬ S b) : Jn M' w' j lob J := by
  obtain ⟨sv, lv, r, hs, hl⟩ := h.ex
  exact ⟨⟨sv, lv, hk.row r (hn j (.inl rfl)), hs.ext hx hk hS, hl.ext hx hk hS fun b e => hn b (.inr e)⟩, hx.sub j h.mj, h.ok, hx.lt⟩
theorem Jn.kp' (h : Jn M w j lob J) (hk : Kp Emp w w') : Jn M w' j lob J := h.ext (Ext.same h.lt hk) hk (fun _ q => q.elim) (fun _ _ q => q)
theorem Jn.own (h : Jn M w j lob J) {b : Nat} (hb : OwnJ j lob b) : M b := by
  rcases hb with rfl | e
  · exact h.mj
  · obtain ⟨sv, lv, r, hs, evs, h1, h2, _⟩ := h.ex
    exact h2 b e
/-- a store into the journal's own block -/
theorem jst (r : Row w j 67 (J.cells sv lv)) (hs : Ai bC 1 M w sv J.snap) (hl : Lg M w lob lv J.log) (hM : ∀ b, M b → b < w.heap.size) (mj : M j) {o : Nat} {x : Value} {kk : World → Prop} (ho : o < 10) (hx : scal x = true)
    (hK : ∀ w', Row w' j 67 ((J.cells sv lv).set o x) → Ai bC 1 M w' sv J.snap → Lg M w' lob lv J.log → (∀ b, M b → b < w'.heap.size) → Kp (fun b => b = j) w w' → w'.heap.size = w.heap.size → kk w') : st1 (P j o) x kk w := by
  refine st1_r r ho hx fun w1 r1 hk1 hz1 => ?_
  have hS : ∀ b, b = j → b < w.heap.size → M b := fun b e _ => e ▸ mj
  refine hK w1 r1 (hs.kp hk1 hS) (hl.ext (Ext.same hM hk1) hk1 hS fun b e q => ?_) (fun b q => by have := hM b q; omega) hk1 hz1
  obtain ⟨evs, s1, _⟩ := hl
  obtain ⟨l, hr⟩ := s1.row e
  exact row_ne hr r (by decide) q
theorem copyOf_ok (h : Ar bC 1 S w v xs) (hK : ∀ w' v' b, Sl bC 1 w' 5 (some b) v' xs → Nb w w' b → Kp Emp w w' → K v' w') : cl Tryz.prog 126 #[v] K w := by
  apply c126
  unfold s126_p1
  have hl := h.len
  exact ar_copy bC_len rfl (fun _ _ => bC_sc _) h (by omega) hK
theorem jnew_ok {a b c : Int} (hb : small b) (hM : ∀ b, M b → b < w.heap.size) (hK : ∀ w' M' j, Ext M M' w w' → Kp Emp w w' → w.heap.size ≤ j → Jn M' w' j none ⟨a, b, c, false, [], [], 0, false, 0, 0⟩ → K (P j 0) w') : cl Tryz.prog 82 #[.agg #[I a, I b, I c]] K w := by
  apply c82
  unfold s82_p1
  refine nw_r fun w1 r1 hk1 hz1 => ?_
  refine ldn_r r1 (show 0 + 3 ≤ 3 by decide) ?_
  refine bdq_r (l := [I a, I b, I c, .bool false, nilS, nilS, I 0, .bool false, I 0, I 0]) rfl ?_
  refine nw_r fun w2 r2 hk2 hz2 => ?_
  have k2 : Kp Emp w w2 := hk1.trans hk2
  refine hK w2 _ w1.heap.size (Ext.add hM k2 (m := w1.heap.size) (by omega) (by omega)) k2 (by omega) ⟨⟨nilS, nilS, r2, Ar.nil, [], ⟨rfl, rfl⟩, (fun b e => by cases e), rfl, (fun i a => by simp at a)⟩, .inr rfl, ⟨by simp, by simp, by simp, by simp [tot], hb, by simp⟩, fun b q => ?_⟩
  rcases q with q | q
  · have := hM b q; omega
  · omega
theorem due_ok (h : Jn M w j lob J) (hK : ∀ w', Jn M w' j lob { J with left := if J.left = 0 then 0 else J.left - 1 } → Kp (fun b => b = j) w w' → w'.heap.size = w.heap.size → K (.bool (decide (J.left = 1))) w') : cl Tryz.prog 168 #[P j 0] K w := by
  obtain ⟨sv, lv, r, hs, hl⟩ := h.ex
  have ok := h.ok
  have o0 := ok.l0
  have o1 := ok.l1
  apply c168
  unfold s168_p1
  try simp only [e_fd, e_nck, e_pkt, e_pkf, e_gdtt, e_gdtf, e_gdft, e_gdff, e_ift, e_iff, e_not, e_ln, e_lnT, e_cp, e_cvi, e_ex20, e_ex21, e_ex30, e_ex31, e_ex32, e_add, e_sub, e_mul, e_quo, e_rem, e_and, e_or, e_xor, e_shl, e_shr, e_eql, e_neq, e_lss, e_leq, e_gtr, e_geq, e_beq, e_bne, e_peq1, e_peq2, e_pne1, e_pne2, e_zeq1, e_zeq2, e_zne1, e_zne2, e_feq1, e_fne1, e_feq2, e_fne2, e_seq, e_sne, e_ta1, e_ta2, Nat.zero_add, Nat.add_zero, Bool.not_true, Bool.not_false]
  refine ld1_r r rfl ?_
  try simp only [e_fd, e_nck, e_pkt, e_pkf, e_gdtt, e_gdtf, e_gdft, e_gdff, e_ift, e_iff, e_not, e_ln, e_lnT, e_cp, e_cvi, e_ex20, e_ex21, e_ex30, e_ex31, e_ex32, e_add, e_sub, e_mul, e_quo, e_rem, e_and, e_or, e_xor, e_shl, e_shr, e_eql, e_neq, e_lss, e_leq, e_gtr, e_geq, e_beq, e_bne, e_peq1, e_peq2, e_pne1, e_pne2, e_zeq1, e_zeq2, e_zne1, e_zne2, e_feq1, e_fne1, e_feq2, e_fne2, e_seq, e_sne, e_ta1, e_ta2, Nat.zero_add, Nat.add_zero, Bool.not_true, Bool.not_false]
  by_cases h0 : J.left = 0
  · have e1 : (J.left == 0) = true := by rw [h0]; rfl
    simp only [e1, e_fd, e_nck, e_pkt, e_pkf, e_gdtt, e_gdtf, e_gdft, e_gdff, e_ift, e_iff, e_not, e_ln, e_lnT, e_cp, e_cvi, e_ex20, e_ex21, e_ex30, e_ex31, e_ex32, e_add, e_sub, e_mul, e_quo, e_rem, e_and, e_or, e_xor, e_shl, e_shr, e_eql, e_neq, e_lss, e_leq, e_gtr, e_geq, e_beq, e_bne, e_peq1, e_peq2, e_pne1, e_pne2, e_zeq1, e_zeq2, e_zne1, e_zne2, e_feq1, e_fne1, e_feq2, e_fne2, e_seq, e_sne, e_ta1, e_ta2, Nat.zero_add, Nat.add_zero, Bool.not_true, Bool.not_false]
    have := hK w (by rw [if_pos h0, ← h0]; exact h) (Kp.refl _ _) rfl
    rw [decide_eq_false (by omega)] at this
    exact this
  · have e1 : (J.left == 0) = false := by rw [beq_eq_false_iff_ne]; exact h0
    simp only [e1, e_fd, e_nck, e_pkt, e_pkf, e_gdtt, e_gdtf, e_gdft, e_gdff, e_ift, e_iff, e_not, e_ln, e_lnT, e_cp, e_cvi, e_ex20, e_ex21, e_ex30, e_ex31, e_ex32, e_add, e_sub, e_mul, e_quo, e_rem, e_and, e_or, e_xor, e_shl, e_shr, e_eql, e_neq, e_lss, e_leq, e_gtr, e_geq, e_beq, e_bne, e_peq1, e_peq2, e_pne1, e_pne2, e_zeq1, e_zeq2, e_zne1, e_zne2, e_feq1, e_fne1, e_feq2, e_fne2, e_seq, e_sne, e_ta1, e_ta2, Nat.zero_add, Nat.add_zero, Bool.not_true, Bool.not_false]
    refine ld1_r r rfl ?_
    try simp only [e_fd, e_nck, e_pkt, e_pkf, e_gdtt, e_gdtf, e_gdft, e_gdff, e_ift, e_iff, e_not, e_ln, e_lnT, e_cp, e_cvi, e_ex20, e_ex21, e_ex30, e_ex31, e_ex32, e_add, e_sub, e_mul, e_quo, e_rem, e_and, e_or, e_xor, e_shl, e_shr, e_eql, e_neq, e_lss, e_leq, e_gtr, e_geq, e_beq, e_bne, e_peq1, e_peq2, e_pne1, e_pne2, e_zeq1, e_zeq2, e_zne1, e_zne2, e_feq1, e_fne1, e_feq2, e_fne2, e_seq, e_sne, e_ta1, e_ta2, Nat.zero_add, Nat.add_zero, Bool.not_true, Bool.not_false]
    rw [wrap64_id (by omega) (by omega)]
    refine jst r hs hl h.lt h.mj (by decide) rfl fun w1 r1 hs1 hl1 hM1 hk1 hz1 => ?_
    try simp only [e_fd, e_nck, e_pkt, e_pkf, e_gdtt, e_gdtf, e_gdft, e_gdff, e_ift, e_iff, e_not, e_ln, e_lnT, e_cp, e_cvi, e_ex20, e_ex21, e_ex30, e_ex31, e_ex32, e_add, e_sub, e_mul, e_quo, e_rem, e_and, e_or, e_xor, e_shl, e_shr, e_eql, e_neq, e_lss, e_leq, e_gtr, e_geq, e_beq, e_bne, e_peq1, e_peq2, e_pne1, e_pne2, e_zeq1, e_zeq2, e_zne1, e_zne2, e_feq1, e_fne1, e_feq2, e_fne2, e_seq, e_sne, e_ta1, e_ta2, Nat.zero_add, Nat.add_zero, Bool.not_true, Bool.not_false]
    refine ld1_r r1 rfl ?_
    try simp only [e_fd, e_nck, e_pkt, e_pkf, e_gdtt, e_gdtf, e_gdft, e_gdff, e_ift, e_iff, e_not, e_ln, e_lnT, e_cp, e_cvi, e_ex20, e_ex21, e_ex30, e_ex31, e_ex32, e_add, e_sub, e_mul, e_quo, e_rem, e_and, e_or, e_xor, e_shl, e_shr, e_eql, e_neq, e_lss, e_leq, e_gtr, e_geq, e_beq, e_bne, e_peq1, e_peq2, e_pne1, e_pne2, e_zeq1, e_zeq2, e_zne1, e_zne2, e_feq1, e_fne1, e_feq2, e_fne2, e_seq, e_sne, e_ta1, e_ta2, Nat.zero_add, Nat.add_zero, Bool.not_true, Bool.not_false]
    have := hK w1 (by rw [if_neg h0]; exact ⟨⟨sv, lv, r1, hs1, hl1⟩, h.mj, ⟨ok.safe, by show 0 ≤ J.left - 1; omega, by show J.left - 1 ≤ _; omega, ok.tot, ok.cp, ok.len⟩, hM1⟩) hk1 hz1
    have e2 : (J.left - 1 == 0) = decide (J.left = 1) := by
      by_cases q : J.left = 1
      · rw [q]; rfl
      · rw [decide_eq_false q, beq_eq_false_iff_ne]; omega
    rw [e2]
    exact this
end
end Go.Proofs.Qxb6500896aGreat
