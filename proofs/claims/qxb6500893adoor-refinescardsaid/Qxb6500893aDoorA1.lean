import Derived.Test.Qxb6500893aDoorG1
import Derived.Test.Qxb6500893aDoorShVs
import Derived.Test.Qxb6500893aDoorShFlat
namespace Go.Proofs.Qxb6500893aDoor
open Go.Sh Go.RowKit
set_option linter.unusedVariables false
set_option linter.unusedSimpArgs false

abbrev I (n : Int) : Value := .int .i64 n
abbrev U64 (n : Nat) : Value := .int .u64 (n : Int)
abbrev U32 (n : Nat) : Value := .int .u32 (n : Int)
abbrev P (b o : Nat) : Value := .pointer (some ⟨b, o, none⟩)
abbrev nilS : Value := .slice none 0 0
def upd {α : Type} (f : Nat → α) (i : Nat) (v : α) : Nat → α := fun k => if k = i then v else f k
theorem updN {α : Type} {H : Nat → α} {k : Nat} {x : α} : upd H k x k = x := by unfold upd; rw [if_pos rfl]
theorem updO {α : Type} {H : Nat → α} {k i : Nat} {x : α} (h : i ≠ k) : upd H k x i = H i := by unfold upd; rw [if_neg h]
/-- the two sizes of numbers -/
theorem wrapU64 (n : Int) : IntKind.u64.wrap n = n % 18446744073709551616 := by
  have e : (2 ^ IntKind.u64.bits : Int) = 18446744073709551616 := by decide
  unfold IntKind.wrap
  rw [e]
  simp [IntKind.signed]
theorem wrapU32 (n : Int) : IntKind.u32.wrap n = n % 4294967296 := by
  have e : (2 ^ IntKind.u32.bits : Int) = 4294967296 := by decide
  unfold IntKind.wrap
  rw [e]
  simp [IntKind.signed]
theorem w64 {n : Nat} (h : n < 18446744073709551616) : IntKind.u64.wrap (n : Int) = n := by rw [wrapU64]; omega
theorem w32 {n : Nat} (h : n < 4294967296) : IntKind.u32.wrap (n : Int) = n := by rw [wrapU32]; omega

def u1 (n : Nat) : List Value := [U32 n]
theorem u1_len (x : Nat) : (u1 x).length = 1 := rfl
theorem rows_u1 (xs : List Nat) : rows u1 xs = xs.map U32 := by
  induction xs with
  | nil => rfl
  | cons x xs ih => rw [rows_cons, ih]; rfl
theorem sl_scal {α : Type} {f : α → List Value} {k : Nat} {w : World} {e : TypeId} {ob : Option Nat} {v : Value} {xs : List α} (h : Sl f k w e ob v xs) : scal v = true := by
  cases ob with
  | none => obtain ⟨rfl, _⟩ := h; rfl
  | some b => obtain ⟨cap, junk, rfl, _⟩ := h; rfl

/-- an arena: its words, the meter modulo 2^64, what was stored to -/
structure Ar where
  ws : Nat → Nat
  st : Nat
  sd : List Nat
/-- where it lies -/
structure Am where
  wb : Nat
  sv : Value
  sob : Option Nat
def tabW (n : Nat) (f : Nat → Nat) : List Value := (List.range n).map (fun i => U64 (f i))
theorem tabW_len (n : Nat) (f : Nat → Nat) : (tabW n f).length = n := by simp [tabW]
theorem tabW_get {n k : Nat} (f : Nat → Nat) (h : k < n) : (tabW n f)[k]? = some (U64 (f k)) := by
  unfold tabW; rw [List.getElem?_map, List.getElem?_range h]; rfl
theorem tabW_set {n k : Nat} (f : Nat → Nat) (x : Nat) : (tabW n f).set k (U64 x) = tabW n (upd f k x) := by
  apply List.ext_getElem?
  intro i
  unfold tabW
  rw [List.getElem?_set, List.getElem?_map, List.getElem?_map]
  by_cases hi : i < n
  · rw [List.getElem?_range hi]
    by_cases e : k = i
    · subst e; simp [hi, updN]
    · simp [e, updO (Ne.symm e)]
  · rw [List.getElem?_eq_none (by simp; omega)]
    by_cases e : k = i
    · subst e; simp [hi]
    · simp [e]

structure Arn (w : World) (ab : Nat) (M : Am) (A : Ar) : Prop where
  row : Row w ab 114 [.slice (some ⟨M.wb, 0, none⟩) 4096 4096, U64 A.st, M.sv]
  ws : Row w M.wb 71 (tabW 4096 A.ws)
  sd : Sl u1 1 w 31 M.sob M.sv A.sd
  rng : ∀ i, i < 4096 → A.ws i < 18446744073709551616
  st : A.st < 18446744073709551616
def OwnA (ab : Nat) (M : Am) (b : Nat) : Prop := b = ab ∨ b = M.wb ∨ M.sob = some b
/-- what a call on an arena may change -/
structure StA (w w' : World) (ab : Nat) (M M' : Am) : Prop where
  kp : Kp (OwnA ab M) w w'
  wb : M'.wb = M.wb
  own : ∀ b, M'.sob = some b → M.sob = some b ∨ w.heap.size ≤ b
def tick (s k : Nat) : Nat := (s + k) % 18446744073709551616
theorem tick_lt (s k : Nat) : tick s k < 18446744073709551616 := Nat.mod_lt _ (by decide)
theorem tick_add (s a b : Nat) : tick (tick s a) b = tick s (a + b) := by unfold tick; omega
theorem tick_0 {s : Nat} (h : s < 18446744073709551616) : tick s 0 = s := by unfold tick; omega

section
variable {w w' w'' : World} {ab : Nat} {M M' M'' : Am} {A : Ar} {K : Value → World → Prop} {T : Nat → Prop}
theorem Arn.frame (h : Arn w ab M A) (hk : Kp T w w') (hn : ∀ b, OwnA ab M b → ¬ T b) : Arn w' ab M A :=
  ⟨hk.row h.row (hn _ (.inl rfl)), hk.row h.ws (hn _ (.inr (.inl rfl))), h.sd.kp hk (fun b hb => hn b (.inr (.inr hb))), h.rng, h.st⟩
theorem Arn.kp' (h : Arn w ab M A) (hk : Kp (fun _ => False) w w') : Arn w' ab M A := h.frame hk (fun _ _ q => q)
theorem StA.refl (w : World) (ab : Nat) (M : Am) : StA w w ab M M := ⟨Kp.refl _ _, rfl, fun _ h => .inl h⟩
theorem StA.own' (h : StA w w' ab M M') {b : Nat} (hb : OwnA ab M' b) : OwnA ab M b ∨ w.heap.size ≤ b := by
  rcases hb with q | q | q
  · exact .inl (.inl q)
  · exact .inl (.inr (.inl (by rw [q, h.wb])))
  · exact (h.own b q).elim (fun q => .inl (.inr (.inr q))) .inr
theorem StA.trans (h : StA w w' ab M M') (h' : StA w' w'' ab M' M'') : StA w w'' ab M M'' := by
  refine ⟨h.kp.then h'.kp (fun k hk q => (h.own' q).resolve_right (by omega)), h'.wb.trans h.wb, fun b hb => ?_⟩
  rcases h'.own b hb with q | q
  · exact h.own b q
  · exact .inr (Nat.le_trans h.kp.size q)
theorem StA.of (hk : Kp T w w') (hT : ∀ b, b < w.heap.size → T b → OwnA ab M b) : StA w w' ab M M := ⟨hk.mono hT, rfl, fun _ h => .inl h⟩
theorem StA.of0 (hk : Kp (fun _ => False) w w') : StA w w' ab M M := StA.of hk (fun _ _ q => q.elim)
/-- blocks of other tags are kept -/
theorem Arn.ntag (h : Arn w ab M A) {b : Nat} {t : TypeId} {l : List Value} (hr : Row w b t l) (h1 : t ≠ 114) (h2 : t ≠ 71) (h3 : t ≠ 31) : ¬ OwnA ab M b := by
  rintro (q | q | q)
  · exact row_ne hr h.row h1 q
  · exact row_ne hr h.ws h2 q
  · obtain ⟨l', hr'⟩ := h.sd.row q; exact row_ne hr hr' h3 rfl
theorem Arn.lt (h : Arn w ab M A) {b : Nat} (hb : OwnA ab M b) : b < w.heap.size := by
  rcases hb with q | q | q
  · subst q; exact h.row.lt
  · subst q; exact h.ws.lt
  · obtain ⟨l', hr'⟩ := h.sd.row q; exact hr'.lt
theorem Arn.setS (h : Arn w ab M A) {s : Nat} (hk : Kp (fun b => b = ab) w w') (hr : Row w' ab 114 [.slice (some ⟨M.wb, 0, none⟩) 4096 4096, U64 s, M.sv]) (hs : s < 18446744073709551616) : Arn w' ab M { A with st := s } :=
  ⟨hr, hk.row h.ws (fun q => row_ne h.ws h.row (by decide) q), h.sd.kp hk (fun b hb q => by obtain ⟨l, hr'⟩ := h.sd.row hb; exact row_ne hr' h.row (by decide) q), h.rng, hs⟩
theorem stA_ab (hk : Kp (fun b => b = ab) w w') : StA w w' ab M M := StA.of hk (fun b _ q => .inl q)

theorem size_ok (h : Arn w ab M A) (hK : K (U64 4096) w) : cl Tryd.prog 47 #[P ab 0] K w := by
  apply c47
  unfold s47_p1
  try simp only [e_fd, e_nck, e_pkt, e_pkf, e_gdtt, e_gdtf, e_gdft, e_gdff, e_ift, e_iff, e_not, e_ln, e_lnT, e_cp, e_cvi, e_ex20, e_ex21, e_ex30, e_ex31, e_ex32, e_add, e_sub, e_mul, e_quo, e_rem, e_and, e_or, e_xor, e_shl, e_shr, e_eql, e_neq, e_lss, e_leq, e_gtr, e_geq, e_beq, e_bne, e_peq1, e_peq2, e_pne1, e_pne2, e_zeq1, e_zeq2, e_zne1, e_zne2, e_feq1, e_fne1, e_feq2, e_fne2, e_seq, e_sne, e_ta1, e_ta2, Nat.zero_add, Nat.add_zero, Bool.not_true, Bool.not_false]
  refine ld1_r h.row rfl ?_
  try simp only [e_fd, e_nck, e_pkt, e_pkf, e_gdtt, e_gdtf, e_gdft, e_gdff, e_ift, e_iff, e_not, e_ln, e_lnT, e_cp, e_cvi, e_ex20, e_ex21, e_ex30, e_ex31, e_ex32, e_add, e_sub, e_mul, e_quo, e_rem, e_and, e_or, e_xor, e_shl, e_shr, e_eql, e_neq, e_lss, e_leq, e_gtr, e_geq, e_beq, e_bne, e_peq1, e_peq2, e_pne1, e_pne2, e_zeq1, e_zeq2, e_zne1, e_zne2, e_feq1, e_fne1, e_feq2, e_fne2, e_seq, e_sne, e_ta1, e_ta2, Nat.zero_add, Nat.add_zero, Bool.not_true, Bool.not_false]
  rw [w64 (by decide)]
  exact hK
theorem steps_ok (h : Arn w ab M A) (hK : K (U64 A.st) w) : cl Tryd.prog 31 #[P ab 0] K w := by
  apply c31
  unfold s31_p1
  try simp only [e_fd, e_nck, e_pkt, e_pkf, e_gdtt, e_gdtf, e_gdft, e_gdff, e_ift, e_iff, e_not, e_ln, e_lnT, e_cp, e_cvi, e_ex20, e_ex21, e_ex30, e_ex31, e_ex32, e_add, e_sub, e_mul, e_quo, e_rem, e_and, e_or, e_xor, e_shl, e_shr, e_eql, e_neq, e_lss, e_leq, e_gtr, e_geq, e_beq, e_bne, e_peq1, e_peq2, e_pne1, e_pne2, e_zeq1, e_zeq2, e_zne1, e_zne2, e_feq1, e_fne1, e_feq2, e_fne2, e_seq, e_sne, e_ta1, e_ta2, Nat.zero_add, Nat.add_zero, Bool.not_true, Bool.not_false]
  exact ld1_r h.row rfl hK
theorem charge_ok {n : Nat} (h : Arn w ab M A) (hK : ∀ w', Arn w' ab M { A with st := tick A.st n } → Kp (fun b => b = ab) w w' → K (.tuple #[]) w') : cl Tryd.prog 52 #[P ab 0, U64 n] K w := by
  apply c52
  unfold s52_p1
  try simp only [e_fd, e_nck, e_pkt, e_pkf, e_gdtt, e_gdtf, e_gdft, e_gdff, e_ift, e_iff, e_not, e_ln, e_lnT, e_cp, e_cvi, e_ex20, e_ex21, e_ex30, e_ex31, e_ex32, e_add, e_sub, e_mul, e_quo, e_rem, e_and, e_or, e_xor, e_shl, e_shr, e_eql, e_neq, e_lss, e_leq, e_gtr, e_geq, e_beq, e_bne, e_peq1, e_peq2, e_pne1, e_pne2, e_zeq1, e_zeq2, e_zne1, e_zne2, e_feq1, e_fne1, e_feq2, e_fne2, e_seq, e_sne, e_ta1, e_ta2, Nat.zero_add, Nat.add_zero, Bool.not_true, Bool.not_false]
  refine ld1_r h.row rfl ?_
  try simp only [e_fd, e_nck, e_pkt, e_pkf, e_gdtt, e_gdtf, e_gdft, e_gdff, e_ift, e_iff, e_not, e_ln, e_lnT, e_cp, e_cvi, e_ex20, e_ex21, e_ex30, e_ex31, e_ex32, e_add, e_sub, e_mul, e_quo, e_rem, e_and, e_or, e_xor, e_shl, e_shr, e_eql, e_neq, e_lss, e_leq, e_gtr, e_geq, e_beq, e_bne, e_peq1, e_peq2, e_pne1, e_pne2, e_zeq1, e_zeq2, e_zne1, e_zne2, e_feq1, e_fne1, e_feq2, e_fne2, e_seq, e_sne, e_ta1, e_ta2, Nat.zero_add, Nat.add_zero, Bool.not_true, Bool.not_false]
  have e : IntKind.u64.wrap ((A.st : Int) + (n : Int)) = ((tick A.st n : Nat) : Int) := by rw [wrapU64]; unfold tick; omega
  rw [e]
  refine st1_r h.row (show 1 < 3 by decide) rfl fun w1 r1 hk1 hz1 => ?_
  exact hK w1 (h.setS hk1 r1 (tick_lt _ _)) hk1
theorem take_ok (h : Arn w ab M A) (hK : ∀ w', Arn w' ab { M with sv := nilS, sob := none } { A with sd := [] } → Sl u1 1 w' 31 M.sob M.sv A.sd → Kp (fun b => b = ab) w w' → K M.sv w') : cl Tryd.prog 25 #[P ab 0] K w := by
  apply c25
  unfold s25_p1
  try simp only [e_fd, e_nck, e_pkt, e_pkf, e_gdtt, e_gdtf, e_gdft, e_gdff, e_ift, e_iff, e_not, e_ln, e_lnT, e_cp, e_cvi, e_ex20, e_ex21, e_ex30, e_ex31, e_ex32, e_add, e_sub, e_mul, e_quo, e_rem, e_and, e_or, e_xor, e_shl, e_shr, e_eql, e_neq, e_lss, e_leq, e_gtr, e_geq, e_beq, e_bne, e_peq1, e_peq2, e_pne1, e_pne2, e_zeq1, e_zeq2, e_zne1, e_zne2, e_feq1, e_fne1, e_feq2, e_fne2, e_seq, e_sne, e_ta1, e_ta2, Nat.zero_add, Nat.add_zero, Bool.not_true, Bool.not_false]
  refine ld1_r h.row rfl ?_
  refine st1_r h.row (show 2 < 3 by decide) rfl fun w1 r1 hk1 hz1 => ?_
  exact hK w1 ⟨r1, hk1.row h.ws (fun q => row_ne h.ws h.row (by decide) q), ⟨rfl, rfl⟩, h.rng, h.st⟩ (h.sd.kp hk1 (fun b hb q => by obtain ⟨l, hr'⟩ := h.sd.row hb; exact row_ne hr' h.row (by decide) q)) hk1

theorem load_ok {at_ : Nat} (h : Arn w ab M A) (ha : at_ < 4294967296) (hK : ∀ w', Arn w' ab M { A with st := tick A.st 1 } → Kp (fun b => b = ab) w w' → K (.tuple #[U64 (if at_ < 4096 then A.ws at_ else 0), I (if at_ < 4096 then 0 else 1)]) w') : cl Tryd.prog 23 #[P ab 0, U32 at_] K w := by
  apply c23
  unfold s23_p1
  try simp only [e_fd, e_nck, e_pkt, e_pkf, e_gdtt, e_gdtf, e_gdft, e_gdff, e_ift, e_iff, e_not, e_ln, e_lnT, e_cp, e_cvi, e_ex20, e_ex21, e_ex30, e_ex31, e_ex32, e_add, e_sub, e_mul, e_quo, e_rem, e_and, e_or, e_xor, e_shl, e_shr, e_eql, e_neq, e_lss, e_leq, e_gtr, e_geq, e_beq, e_bne, e_peq1, e_peq2, e_pne1, e_pne2, e_zeq1, e_zeq2, e_zne1, e_zne2, e_feq1, e_fne1, e_feq2, e_fne2, e_seq, e_sne, e_ta1, e_ta2, Nat.zero_add, Nat.add_zero, Bool.not_true, Bool.not_false]
  refine ld1_r h.row rfl ?_
  try simp only [e_fd, e_nck, e_pkt, e_pkf, e_gdtt, e_gdtf, e_gdft, e_gdff, e_ift, e_iff, e_not, e_ln, e_lnT, e_cp, e_cvi, e_ex20, e_ex21, e_ex30, e_ex31, e_ex32, e_add, e_sub, e_mul, e_quo, e_rem, e_and, e_or, e_xor, e_shl, e_shr, e_eql, e_neq, e_lss, e_leq, e_gtr, e_geq, e_beq, e_bne, e_peq1, e_peq2, e_pne1, e_pne2, e_zeq1, e_zeq2, e_zne1, e_zne2, e_feq1, e_fne1, e_feq2, e_fne2, e_seq, e_sne, e_ta1, e_ta2, Nat.zero_add, Nat.add_zero, Bool.not_true, Bool.not_false]
  have e : IntKind.u64.wrap ((A.st : Int) + 1) = ((tick A.st 1 : Nat) : Int) := by rw [wrapU64]; unfold tick; omega
  rw [e]
  refine st1_r h.row (show 1 < 3 by decide) rfl fun w1 r1 hk1 hz1 => ?_
  have h1 := h.setS hk1 r1 (tick_lt _ _)
  try simp only [e_fd, e_nck, e_pkt, e_pkf, e_gdtt, e_gdtf, e_gdft, e_gdff, e_ift, e_iff, e_not, e_ln, e_lnT, e_cp, e_cvi, e_ex20, e_ex21, e_ex30, e_ex31, e_ex32, e_add, e_sub, e_mul, e_quo, e_rem, e_and, e_or, e_xor, e_shl, e_shr, e_eql, e_neq, e_lss, e_leq, e_gtr, e_geq, e_beq, e_bne, e_peq1, e_peq2, e_pne1, e_pne2, e_zeq1, e_zeq2, e_zne1, e_zne2, e_feq1, e_fne1, e_feq2, e_fne2, e_seq, e_sne, e_ta1, e_ta2, Nat.zero_add, Nat.add_zero, Bool.not_true, Bool.not_false]
  rw [w64 (by omega)]
  refine size_ok h1 ?_
  try simp only [e_fd, e_nck, e_pkt, e_pkf, e_gdtt, e_gdtf, e_gdft, e_gdff, e_ift, e_iff, e_not, e_ln, e_lnT, e_cp, e_cvi, e_ex20, e_ex21, e_ex30, e_ex31, e_ex32, e_add, e_sub, e_mul, e_quo, e_rem, e_and, e_or, e_xor, e_shl, e_shr, e_eql, e_neq, e_lss, e_leq, e_gtr, e_geq, e_beq, e_bne, e_peq1, e_peq2, e_pne1, e_pne2, e_zeq1, e_zeq2, e_zne1, e_zne2, e_feq1, e_fne1, e_feq2, e_fne2, e_seq, e_sne, e_ta1, e_ta2, Nat.zero_add, Nat.add_zero, Bool.not_true, Bool.not_false]
  by_cases hl : at_ < 4096
  · have hl' : ¬ ((4096 : Nat) : Int) ≤ (at_ : Int) := by omega
    simp only [hl', decide_false, e_fd, e_nck, e_pkt, e_pkf, e_gdtt, e_gdtf, e_gdft, e_gdff, e_ift, e_iff, e_not, e_ln, e_lnT, e_cp, e_cvi, e_ex20, e_ex21, e_ex30, e_ex31, e_ex32, e_add, e_sub, e_mul, e_quo, e_rem, e_and, e_or, e_xor, e_shl, e_shr, e_eql, e_neq, e_lss, e_leq, e_gtr, e_geq, e_beq, e_bne, e_peq1, e_peq2, e_pne1, e_pne2, e_zeq1, e_zeq2, e_zne1, e_zne2, e_feq1, e_fne1, e_feq2, e_fne2, e_seq, e_sne, e_ta1, e_ta2, Nat.zero_add, Nat.add_zero, Bool.not_true, Bool.not_false]
    simp only [if_pos hl] at hK
    refine ld1_r h1.row rfl ?_
    refine ⟨⟨by omega, by omega⟩, ?_⟩
    rw [show ((at_ : Int)).toNat = at_ by omega, add_mk, Nat.zero_add, Nat.mul_one]
    refine ld1_r h1.ws (tabW_get _ hl) ?_
    exact hK w1 h1 hk1
  · have hl' : ((4096 : Nat) : Int) ≤ (at_ : Int) := by omega
    simp only [hl', decide_true, e_fd, e_nck, e_pkt, e_pkf, e_gdtt, e_gdtf, e_gdft, e_gdff, e_ift, e_iff, e_not, e_ln, e_lnT, e_cp, e_cvi, e_ex20, e_ex21, e_ex30, e_ex31, e_ex32, e_add, e_sub, e_mul, e_quo, e_rem, e_and, e_or, e_xor, e_shl, e_shr, e_eql, e_neq, e_lss, e_leq, e_gtr, e_geq, e_beq, e_bne, e_peq1, e_peq2, e_pne1, e_pne2, e_zeq1, e_zeq2, e_zne1, e_zne2, e_feq1, e_fne1, e_feq2, e_fne2, e_seq, e_sne, e_ta1, e_ta2, Nat.zero_add, Nat.add_zero, Bool.not_true, Bool.not_false]
    simp only [if_neg hl] at hK
    exact hK w1 h1 hk1

/-- a store inside the arena -/
def put (A : Ar) (at_ v : Nat) : Ar := ⟨upd A.ws at_ v, tick A.st 1, A.sd ++ [at_]⟩
theorem store_ok {at_ v : Nat} (h : Arn w ab M A) (ha : at_ < 4096) (hv : v < 18446744073709551616) (hs : A.sd.length ≤ 1000000) (hK : ∀ w' M', Arn w' ab M' (put A at_ v) → StA w w' ab M M' → K (I 0) w') : cl Tryd.prog 28 #[P ab 0, U32 at_, U64 v] K w := by
  apply c28
  unfold s28_p1
  try simp only [e_fd, e_nck, e_pkt, e_pkf, e_gdtt, e_gdtf, e_gdft, e_gdff, e_ift, e_iff, e_not, e_ln, e_lnT, e_cp, e_cvi, e_ex20, e_ex21, e_ex30, e_ex31, e_ex32, e_add, e_sub, e_mul, e_quo, e_rem, e_and, e_or, e_xor, e_shl, e_shr, e_eql, e_neq, e_lss, e_leq, e_gtr, e_geq, e_beq, e_bne, e_peq1, e_peq2, e_pne1, e_pne2, e_zeq1, e_zeq2, e_zne1, e_zne2, e_feq1, e_fne1, e_feq2, e_fne2, e_seq, e_sne, e_ta1, e_ta2, Nat.zero_add, Nat.add_zero, Bool.not_true, Bool.not_false]
  refine ld1_r h.row rfl ?_
  try simp only [e_fd, e_nck, e_pkt, e_pkf, e_gdtt, e_gdtf, e_gdft, e_gdff, e_ift, e_iff, e_not, e_ln, e_lnT, e_cp, e_cvi, e_ex20, e_ex21, e_ex30, e_ex31, e_ex32, e_add, e_sub, e_mul, e_quo, e_rem, e_and, e_or, e_xor, e_shl, e_shr, e_eql, e_neq, e_lss, e_leq, e_gtr, e_geq, e_beq, e_bne, e_peq1, e_peq2, e_pne1, e_pne2, e_zeq1, e_zeq2, e_zne1, e_zne2, e_feq1, e_fne1, e_feq2, e_fne2, e_seq, e_sne, e_ta1, e_ta2, Nat.zero_add, Nat.add_zero, Bool.not_true, Bool.not_false]
  have e : IntKind.u64.wrap ((A.st : Int) + 1) = ((tick A.st 1 : Nat) : Int) := by rw [wrapU64]; unfold tick; omega
  rw [e]
  refine st1_r h.row (show 1 < 3 by decide) rfl fun w1 r1 hk1 hz1 => ?_
  have h1 := h.setS hk1 r1 (tick_lt _ _)
  try simp only [e_fd, e_nck, e_pkt, e_pkf, e_gdtt, e_gdtf, e_gdft, e_gdff, e_ift, e_iff, e_not, e_ln, e_lnT, e_cp, e_cvi, e_ex20, e_ex21, e_ex30, e_ex31, e_ex32, e_add, e_sub, e_mul, e_quo, e_rem, e_and, e_or, e_xor, e_shl, e_shr, e_eql, e_neq, e_lss, e_leq, e_gtr, e_geq, e_beq, e_bne, e_peq1, e_peq2, e_pne1, e_pne2, e_zeq1, e_zeq2, e_zne1, e_zne2, e_feq1, e_fne1, e_feq2, e_fne2, e_seq, e_sne, e_ta1, e_ta2, Nat.zero_add, Nat.add_zero, Bool.not_true, Bool.not_false]
  rw [w64 (by omega)]
  refine size_ok h1 ?_
  try simp only [e_fd, e_nck, e_pkt, e_pkf, e_gdtt, e_gdtf, e_gdft, e_gdff, e_ift, e_iff, e_not, e_ln, e_lnT, e_cp, e_cvi, e_ex20, e_ex21, e_ex30, e_ex31, e_ex32, e_add, e_sub, e_mul, e_quo, e_rem, e_and, e_or, e_xor, e_shl, e_shr, e_eql, e_neq, e_lss, e_leq, e_gtr, e_geq, e_beq, e_bne, e_peq1, e_peq2, e_pne1, e_pne2, e_zeq1, e_zeq2, e_zne1, e_zne2, e_feq1, e_fne1, e_feq2, e_fne2, e_seq, e_sne, e_ta1, e_ta2, Nat.zero_add, Nat.add_zero, Bool.not_true, Bool.not_false]
  have hl' : ¬ ((4096 : Nat) : Int) ≤ (at_ : Int) := by omega
  simp only [hl', decide_false, e_fd, e_nck, e_pkt, e_pkf, e_gdtt, e_gdtf, e_gdft, e_gdff, e_ift, e_iff, e_not, e_ln, e_lnT, e_cp, e_cvi, e_ex20, e_ex21, e_ex30, e_ex31, e_ex32, e_add, e_sub, e_mul, e_quo, e_rem, e_and, e_or, e_xor, e_shl, e_shr, e_eql, e_neq, e_lss, e_leq, e_gtr, e_geq, e_beq, e_bne, e_peq1, e_peq2, e_pne1, e_pne2, e_zeq1, e_zeq2, e_zne1, e_zne2, e_feq1, e_fne1, e_feq2, e_fne2, e_seq, e_sne, e_ta1, e_ta2, Nat.zero_add, Nat.add_zero, Bool.not_true, Bool.not_false]
  refine ld1_r h1.row rfl ?_
  refine ⟨⟨by omega, by omega⟩, ?_⟩
  rw [show ((at_ : Int)).toNat = at_ by omega, add_mk, Nat.zero_add, Nat.mul_one]
  refine st1_r h1.ws (by rw [tabW_len]; omega) rfl fun w2 r2 hk2 hz2 => ?_
  rw [tabW_set] at r2
  have r12 := hk2.row h1.row (fun q => row_ne h1.row h1.ws (by decide) q)
  have sd2 : Sl u1 1 w2 31 M.sob M.sv A.sd := h1.sd.kp hk2 (fun b hb q => by obtain ⟨l, hr'⟩ := h1.sd.row hb; exact row_ne hr' h1.ws (by decide) q)
  try simp only [e_fd, e_nck, e_pkt, e_pkf, e_gdtt, e_gdtf, e_gdft, e_gdff, e_ift, e_iff, e_not, e_ln, e_lnT, e_cp, e_cvi, e_ex20, e_ex21, e_ex30, e_ex31, e_ex32, e_add, e_sub, e_mul, e_quo, e_rem, e_and, e_or, e_xor, e_shl, e_shr, e_eql, e_neq, e_lss, e_leq, e_gtr, e_geq, e_beq, e_bne, e_peq1, e_peq2, e_pne1, e_pne2, e_zeq1, e_zeq2, e_zne1, e_zne2, e_feq1, e_fne1, e_feq2, e_fne2, e_seq, e_sne, e_ta1, e_ta2, Nat.zero_add, Nat.add_zero, Bool.not_true, Bool.not_false]
  refine ld1_r r12 rfl ?_
  refine sd2.app u1_len rfl at_ rfl (by omega) (by omega) rfl fun w3 sv3 sob3 hs3 hk3 ho3 => ?_
  have n3 : ∀ {b t l}, Row w2 b t l → t ≠ 31 → ¬ M.sob = some b := fun hr ht q => by obtain ⟨l', hr'⟩ := sd2.row q; exact row_ne hr hr' ht rfl
  have r13 := hk3.row r12 (n3 r12 (by decide))
  have r23 := hk3.row r2 (n3 r2 (by decide))
  try simp only [e_fd, e_nck, e_pkt, e_pkf, e_gdtt, e_gdtf, e_gdft, e_gdff, e_ift, e_iff, e_not, e_ln, e_lnT, e_cp, e_cvi, e_ex20, e_ex21, e_ex30, e_ex31, e_ex32, e_add, e_sub, e_mul, e_quo, e_rem, e_and, e_or, e_xor, e_shl, e_shr, e_eql, e_neq, e_lss, e_leq, e_gtr, e_geq, e_beq, e_bne, e_peq1, e_peq2, e_pne1, e_pne2, e_zeq1, e_zeq2, e_zne1, e_zne2, e_feq1, e_fne1, e_feq2, e_fne2, e_seq, e_sne, e_ta1, e_ta2, Nat.zero_add, Nat.add_zero, Bool.not_true, Bool.not_false]
  refine st1_r r13 (show 2 < 3 by decide) (sl_scal hs3) fun w4 r4 hk4 hz4 => ?_
  have st12 : StA w w1 ab M M := stA_ab hk1
  have k14 : Kp (OwnA ab M) w1 w4 := ((hk2.mono fun b _ q => .inr (.inl q)).trans (hk3.mono fun b _ q => .inr (.inr q))).trans (hk4.mono fun b _ q => .inl q)
  have sz2 := hk2.size
  refine hK w4 ⟨M.wb, sv3, sob3⟩ ⟨r4, hk4.row r23 (fun q => row_ne r23 r13 (by decide) q), hs3.kp hk4 (fun b hb q => by obtain ⟨l, hr'⟩ := hs3.row hb; exact row_ne hr' r13 (by decide) q), fun i hi => ?_, tick_lt _ _⟩ (st12.trans ⟨k14, rfl, fun b hb => ?_⟩)
  · show upd A.ws at_ v i < 18446744073709551616
    by_cases e : i = at_
    · rw [e, updN]; exact hv
    · rw [updO e]; exact h.rng i hi
  · rcases ho3 with q | ⟨b', q, hb'⟩
    · rw [← q]; exact .inl hb
    · have hb2 : sob3 = some b := hb
      rw [q] at hb2; cases hb2; exact .inr (by omega)
/-- a store outside -/
theorem store_out {at_ v : Nat} (h : Arn w ab M A) (ha : 4096 ≤ at_) (ha2 : at_ < 4294967296) (hK : ∀ w', Arn w' ab M { A with st := tick A.st 1 } → Kp (fun b => b = ab) w w' → K (I 1) w') : cl Tryd.prog 28 #[P ab 0, U32 at_, U64 v] K w := by
  apply c28
  unfold s28_p1
  try simp only [e_fd, e_nck, e_pkt, e_pkf, e_gdtt, e_gdtf, e_gdft, e_gdff, e_ift, e_iff, e_not, e_ln, e_lnT, e_cp, e_cvi, e_ex20, e_ex21, e_ex30, e_ex31, e_ex32, e_add, e_sub, e_mul, e_quo, e_rem, e_and, e_or, e_xor, e_shl, e_shr, e_eql, e_neq, e_lss, e_leq, e_gtr, e_geq, e_beq, e_bne, e_peq1, e_peq2, e_pne1, e_pne2, e_zeq1, e_zeq2, e_zne1, e_zne2, e_feq1, e_fne1, e_feq2, e_fne2, e_seq, e_sne, e_ta1, e_ta2, Nat.zero_add, Nat.add_zero, Bool.not_true, Bool.not_false]
  refine ld1_r h.row rfl ?_
  try simp only [e_fd, e_nck, e_pkt, e_pkf, e_gdtt, e_gdtf, e_gdft, e_gdff, e_ift, e_iff, e_not, e_ln, e_lnT, e_cp, e_cvi, e_ex20, e_ex21, e_ex30, e_ex31, e_ex32, e_add, e_sub, e_mul, e_quo, e_rem, e_and, e_or, e_xor, e_shl, e_shr, e_eql, e_neq, e_lss, e_leq, e_gtr, e_geq, e_beq, e_bne, e_peq1, e_peq2, e_pne1, e_pne2, e_zeq1, e_zeq2, e_zne1, e_zne2, e_feq1, e_fne1, e_feq2, e_fne2, e_seq, e_sne, e_ta1, e_ta2, Nat.zero_add, Nat.add_zero, Bool.not_true, Bool.not_false]
  have e : IntKind.u64.wrap ((A.st : Int) + 1) = ((tick A.st 1 : Nat) : Int) := by rw [wrapU64]; unfold tick; omega
  rw [e]
  refine st1_r h.row (show 1 < 3 by decide) rfl fun w1 r1 hk1 hz1 => ?_
  have h1 := h.setS hk1 r1 (tick_lt _ _)
  try simp only [e_fd, e_nck, e_pkt, e_pkf, e_gdtt, e_gdtf, e_gdft, e_gdff, e_ift, e_iff, e_not, e_ln, e_lnT, e_cp, e_cvi, e_ex20, e_ex21, e_ex30, e_ex31, e_ex32, e_add, e_sub, e_mul, e_quo, e_rem, e_and, e_or, e_xor, e_shl, e_shr, e_eql, e_neq, e_lss, e_leq, e_gtr, e_geq, e_beq, e_bne, e_peq1, e_peq2, e_pne1, e_pne2, e_zeq1, e_zeq2, e_zne1, e_zne2, e_feq1, e_fne1, e_feq2, e_fne2, e_seq, e_sne, e_ta1, e_ta2, Nat.zero_add, Nat.add_zero, Bool.not_true, Bool.not_false]
  rw [w64 (by omega)]
  refine size_ok h1 ?_
  try simp only [e_fd, e_nck, e_pkt, e_pkf, e_gdtt, e_gdtf, e_gdft, e_gdff, e_ift, e_iff, e_not, e_ln, e_lnT, e_cp, e_cvi, e_ex20, e_ex21, e_ex30, e_ex31, e_ex32, e_add, e_sub, e_mul, e_quo, e_rem, e_and, e_or, e_xor, e_shl, e_shr, e_eql, e_neq, e_lss, e_leq, e_gtr, e_geq, e_beq, e_bne, e_peq1, e_peq2, e_pne1, e_pne2, e_zeq1, e_zeq2, e_zne1, e_zne2, e_feq1, e_fne1, e_feq2, e_fne2, e_seq, e_sne, e_ta1, e_ta2, Nat.zero_add, Nat.add_zero, Bool.not_true, Bool.not_false]
  have hl' : ((4096 : Nat) : Int) ≤ (at_ : Int) := by omega
  simp only [hl', decide_true, e_fd, e_nck, e_pkt, e_pkf, e_gdtt, e_gdtf, e_gdft, e_gdff, e_ift, e_iff, e_not, e_ln, e_lnT, e_cp, e_cvi, e_ex20, e_ex21, e_ex30, e_ex31, e_ex32, e_add, e_sub, e_mul, e_quo, e_rem, e_and, e_or, e_xor, e_shl, e_shr, e_eql, e_neq, e_lss, e_leq, e_gtr, e_geq, e_beq, e_bne, e_peq1, e_peq2, e_pne1, e_pne2, e_zeq1, e_zeq2, e_zne1, e_zne2, e_feq1, e_fne1, e_feq2, e_fne2, e_seq, e_sne, e_ta1, e_ta2, Nat.zero_add, Nat.add_zero, Bool.not_true, Bool.not_false]
  exact hK w1 h1 hk1
end
end Go.Proofs.Qxb6500893aDoor
