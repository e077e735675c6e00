import Derived.Test.Qxb6500895aP1
import Derived.Test.Qxb6500895aShVs
namespace Go.Proofs.Qxb6500895a
open Go.Sh Go.RowKit
set_option linter.unusedVariables false
set_option linter.unusedSimpArgs false

abbrev I (n : Int) : Value := .int .i64 n
abbrev U8 (n : Int) : Value := .int .u8 n
def i1 (n : Int) : List Value := [I n]
def buf (b : Nat) : Value := .slice (some ⟨b, 0, none⟩) 16 16
def lnV (p : Nat × Nat) : List Value := [I p.1, buf p.2]
def spV (b : Nat) : List Value := [buf b]
theorem i1_len (x : Int) : (i1 x).length = 1 := rfl
theorem lnV_len (x : Nat × Nat) : (lnV x).length = 2 := rfl
theorem spV_len (x : Nat) : (spV x).length = 1 := rfl

/-- the state of a device, as the law's own model has it -/
structure DS where
  flu : Nat → List Int
  fr : Nat → Option (List Int)
  off : Bool
  left : Int
  keep : List Int
  torn : Int
  at_ : Int
  rd : Int
  wr : Int
  fl : Int
  cr : Int
  rs : Int

/-- where it lies -/
structure Mem where
  pb : Nat
  ib : Nat
  lv : Value
  sv : Value
  kv : Value
  lob : Option Nat
  sob : Option Nat
  kob : Option Nat
  ls : List (Nat × Nat)
  sp : List Nat

def dcells (m : Mem) (s : DS) : List Value :=
  [I 16, I 12, .slice (some ⟨m.pb, 0, none⟩) 192 192, I 16, .slice (some ⟨m.ib, 0, none⟩) 12 12, m.lv, m.sv, .bool s.off, I s.left, m.kv, I s.torn, I s.at_, I s.rd, I s.wr, I s.fl, I s.cr, I s.rs]

def pos (ls : List (Nat × Nat)) (k : Nat) : Nat := match ls.findIdx? (fun p => p.1 == k) with
  | some j => j + 1
  | none => 0
def By (xs : List Int) : Prop := ∀ x ∈ xs, 0 ≤ x ∧ x ≤ 255
def Sec (xs : List Int) : Prop := xs.length = 16 ∧ By xs
def sec (L : List Int) (i : Nat) : List Int := (L.drop (16 * i)).take 16
def idxs (ls : List (Nat × Nat)) : List Value := (List.range 12).map (fun k => Value.int .i32 (pos ls k : Nat))

structure Dk (w : World) (d : Nat) (m : Mem) (s : DS) : Prop where
  disk : Row w d 91 (dcells m s)
  plat : ∃ L : List Int, L.length = 192 ∧ Row w m.pb 5 (L.map U8) ∧ ∀ i, i < 12 → sec L i = s.flu i
  idx : Row w m.ib 21 (idxs m.ls)
  lines : Sl lnV 2 w 100 m.lob m.lv m.ls
  lnd : (m.ls.map (·.1)).Nodup
  lin : ∀ p ∈ m.ls, p.1 < 12 ∧ ∃ x, s.fr p.1 = some x ∧ Row w p.2 5 (x.map U8)
  frn : ∀ k, (∀ p ∈ m.ls, p.1 ≠ k) → s.fr k = none
  spare : Sl spV 1 w 29 m.sob m.sv m.sp
  spd : ∀ b ∈ m.sp, ∃ x : List Int, x.length = 16 ∧ Row w b 5 (x.map U8)
  kp : Sl i1 1 w 3 m.kob m.kv s.keep
  nd : (m.pb :: (m.ls.map (·.2) ++ m.sp)).Nodup
  fsec : ∀ i, i < 12 → Sec (s.flu i)
  rsec : ∀ i x, s.fr i = some x → Sec x
  klen : s.keep.length ≤ 65536
  left0 : 0 ≤ s.left
  left1 : s.left ≤ 9223372036854775807
  tot : m.ls.length + m.sp.length ≤ 12

def Own (d : Nat) (m : Mem) (b : Nat) : Prop := b = d ∨ b = m.pb ∨ b = m.ib ∨ m.lob = some b ∨ m.sob = some b ∨ m.kob = some b ∨ b ∈ m.ls.map (·.2) ∨ b ∈ m.sp

theorem pig : ∀ (n : Nat) (l : List Nat), l.Nodup → (∀ x ∈ l, x < n) → l.length ≤ n
  | 0, l, _, h => by
    cases l with
    | nil => simp
    | cons a l => have := h a (by simp); omega
  | n + 1, l, hn, h => by
    by_cases q : n ∈ l
    · have := pig n (l.erase n) (hn.erase n) (fun x hx => by
        have h1 := (hn.mem_erase_iff).1 hx
        have := h x h1.2
        have := h1.1
        omega)
      rw [List.length_erase_of_mem q] at this
      omega
    · have := pig n l hn (fun x hx => by
        have := h x hx
        have : x ≠ n := fun e => q (e ▸ hx)
        omega)
      omega

section
variable {w w1 : World} {d : Nat} {m : Mem} {s s' : DS} {K : Value → World → Prop}

theorem Dk.bufRow (h : Dk w d m s) {b : Nat} (hb : b ∈ m.pb :: (m.ls.map (·.2) ++ m.sp)) : ∃ l, Row w b 5 l := by
  rcases List.mem_cons.1 hb with q | q
  · subst q; obtain ⟨L, _, hL, _⟩ := h.plat; exact ⟨_, hL⟩
  · rcases List.mem_append.1 q with q | q
    · rw [List.mem_map] at q; obtain ⟨p, hp, rfl⟩ := q; obtain ⟨_, x, _, hr⟩ := h.lin p hp; exact ⟨_, hr⟩
    · obtain ⟨x, _, hr⟩ := h.spd b q; exact ⟨_, hr⟩
/-- each owned block has a tag -/
theorem Dk.own (h : Dk w d m s) {b : Nat} (hb : Own d m b) : ∃ t l, Row w b t l := by
  rcases hb with q | q | q | q | q | q | q | q
  · subst q; exact ⟨_, _, h.disk⟩
  · subst q; obtain ⟨l, hr⟩ := h.bufRow (b := m.pb) (by simp); exact ⟨_, _, hr⟩
  · subst q; exact ⟨_, _, h.idx⟩
  · obtain ⟨l, hr⟩ := h.lines.row q; exact ⟨_, _, hr⟩
  · obtain ⟨l, hr⟩ := h.spare.row q; exact ⟨_, _, hr⟩
  · obtain ⟨l, hr⟩ := h.kp.row q; exact ⟨_, _, hr⟩
  · obtain ⟨l, hr⟩ := h.bufRow (b := b) (List.mem_cons_of_mem _ (List.mem_append_left _ q)); exact ⟨_, _, hr⟩
  · obtain ⟨l, hr⟩ := h.bufRow (b := b) (List.mem_cons_of_mem _ (List.mem_append_right _ q)); exact ⟨_, _, hr⟩
theorem Dk.lt (h : Dk w d m s) {b : Nat} (hb : Own d m b) : b < w.heap.size := by
  obtain ⟨t, l, hr⟩ := h.own hb; exact hr.lt
/-- another world in which no owned block has changed -/
theorem Dk.frame {T : Nat → Prop} (h : Dk w d m s) (hk : Kp T w w1) (hn : ∀ b, Own d m b → ¬ T b) : Dk w1 d m s := by
  obtain ⟨L, hL1, hL2, hL3⟩ := h.plat
  refine ⟨hk.row h.disk (hn _ (.inl rfl)), ⟨L, hL1, hk.row hL2 (hn _ (.inr (.inl rfl))), hL3⟩, hk.row h.idx (hn _ (.inr (.inr (.inl rfl)))), h.lines.kp hk (fun b hb => hn b (.inr (.inr (.inr (.inl hb))))),
    h.lnd, ?_, h.frn, h.spare.kp hk (fun b hb => hn b (.inr (.inr (.inr (.inr (.inl hb)))))), ?_, h.kp.kp hk (fun b hb => hn b (.inr (.inr (.inr (.inr (.inr (.inl hb))))))), h.nd, h.fsec, h.rsec, h.klen, h.left0, h.left1, h.tot⟩
  · intro p hp
    obtain ⟨q1, x, q2, q3⟩ := h.lin p hp
    exact ⟨q1, x, q2, hk.row q3 (hn _ (.inr (.inr (.inr (.inr (.inr (.inr (.inl (List.mem_map_of_mem hp)))))))))⟩
  · intro b hb
    obtain ⟨x, q1, q2⟩ := h.spd b hb
    exact ⟨x, q1, hk.row q2 (hn _ (.inr (.inr (.inr (.inr (.inr (.inr (.inr hb))))))))⟩
theorem Dk.kp' (h : Dk w d m s) (hk : Kp (fun _ => False) w w1) : Dk w1 d m s := h.frame hk (fun _ _ h => h)

/-- the struct's own cells change -/
theorem Dk.setD (h : Dk w d m s) (hk : Kp (fun b => b = d) w w1) (hr : Row w1 d 91 (dcells m s')) (e1 : s'.flu = s.flu) (e2 : s'.fr = s.fr) (e3 : s'.keep = s.keep) (l0 : 0 ≤ s'.left) (l1 : s'.left ≤ 9223372036854775807) : Dk w1 d m s' := by
  obtain ⟨L, hL1, hL2, hL3⟩ := h.plat
  have ne : ∀ {b t l}, Row w b t l → t ≠ 91 → ¬ b = d := fun hr ht e => row_ne hr h.disk ht e
  have nel : ∀ b, m.lob = some b → ¬ b = d := fun b hb => by obtain ⟨l, hr⟩ := h.lines.row hb; exact ne hr (by decide)
  have nes : ∀ b, m.sob = some b → ¬ b = d := fun b hb => by obtain ⟨l, hr⟩ := h.spare.row hb; exact ne hr (by decide)
  have nek : ∀ b, m.kob = some b → ¬ b = d := fun b hb => by obtain ⟨l, hr⟩ := h.kp.row hb; exact ne hr (by decide)
  refine ⟨hr, ⟨L, hL1, hk.row hL2 (ne hL2 (by decide)), by rw [e1]; exact hL3⟩, hk.row h.idx (ne h.idx (by decide)), h.lines.kp hk nel,
    h.lnd, ?_, by rw [e2]; exact h.frn, h.spare.kp hk nes, ?_, by rw [e3]; exact h.kp.kp hk nek, h.nd, by rw [e1]; exact h.fsec, by rw [e2]; exact h.rsec, by rw [e3]; exact h.klen, l0, l1, h.tot⟩
  · intro p hp
    obtain ⟨q1, x, q2, q3⟩ := h.lin p hp
    exact ⟨q1, x, by rw [e2]; exact q2, hk.row q3 (ne q3 (by decide))⟩
  · intro b hb
    obtain ⟨x, q1, q2⟩ := h.spd b hb
    exact ⟨x, q1, hk.row q2 (ne q2 (by decide))⟩

/-- the platter changes -/
theorem Dk.setP (h : Dk w d m s) (hk : Kp (fun b => b = m.pb) w w1) {L : List Int} {f : Nat → List Int} (hr : Row w1 m.pb 5 (L.map U8)) (hl : L.length = 192) (hs : ∀ i, i < 12 → sec L i = f i) (hf : ∀ i, i < 12 → Sec (f i)) : Dk w1 d m { s with flu := f } := by
  obtain ⟨L0, hL1, hL2, hL3⟩ := h.plat
  have ne : ∀ {b t l}, Row w b t l → t ≠ 5 → ¬ b = m.pb := fun hr ht e => row_ne hr hL2 ht e
  have nel : ∀ b, m.lob = some b → ¬ b = m.pb := fun b hb => by obtain ⟨l, hr⟩ := h.lines.row hb; exact ne hr (by decide)
  have nes : ∀ b, m.sob = some b → ¬ b = m.pb := fun b hb => by obtain ⟨l, hr⟩ := h.spare.row hb; exact ne hr (by decide)
  have nek : ∀ b, m.kob = some b → ¬ b = m.pb := fun b hb => by obtain ⟨l, hr⟩ := h.kp.row hb; exact ne hr (by decide)
  have nd := (List.nodup_cons.1 h.nd).1
  refine ⟨hk.row h.disk (ne h.disk (by decide)), ⟨L, hl, hr, hs⟩, hk.row h.idx (ne h.idx (by decide)), h.lines.kp hk nel,
    h.lnd, ?_, h.frn, h.spare.kp hk nes, ?_, h.kp.kp hk nek, h.nd, hf, h.rsec, h.klen, h.left0, h.left1, h.tot⟩
  · intro p hp
    obtain ⟨q1, x, q2, q3⟩ := h.lin p hp
    refine ⟨q1, x, q2, hk.row q3 ?_⟩
    intro e; rw [← e] at nd; exact nd (List.mem_append_left _ (List.mem_map_of_mem hp))
  · intro b hb
    obtain ⟨x, q1, q2⟩ := h.spd b hb
    refine ⟨x, q1, hk.row q2 ?_⟩
    intro e; rw [← e] at nd; exact nd (List.mem_append_right _ hb)

theorem Dk.lsl (h : Dk w d m s) : m.ls.length ≤ 12 := by have := h.tot; omega
end

/-! ### positions -/
theorem pos_none {ls : List (Nat × Nat)} {k : Nat} (h : pos ls k = 0) : ∀ p ∈ ls, p.1 ≠ k := by
  unfold pos at h
  split at h
  · omega
  · rename_i e
    rw [List.findIdx?_eq_none_iff] at e
    intro p hp
    simpa using e p hp
theorem pos_some {ls : List (Nat × Nat)} {k j : Nat} (h : pos ls k = j + 1) : ∃ hj : j < ls.length, (ls[j]).1 = k := by
  unfold pos at h
  split at h
  · rename_i i e
    have : i = j := by omega
    subst this
    rw [List.findIdx?_eq_some_iff_getElem] at e
    obtain ⟨h1, h2, _⟩ := e
    exact ⟨h1, by simpa using h2⟩
  · omega
theorem pos_zero {ls : List (Nat × Nat)} {k : Nat} (h : ∀ p ∈ ls, p.1 ≠ k) : pos ls k = 0 := by
  unfold pos
  rw [List.findIdx?_eq_none_iff.2 (by intro p hp; simpa using h p hp)]
theorem pos_app {ls : List (Nat × Nat)} {k k' b : Nat} (h : ∀ p ∈ ls, p.1 ≠ k) : pos (ls ++ [(k, b)]) k' = if k' = k then ls.length + 1 else pos ls k' := by
  unfold pos
  rw [List.findIdx?_append]
  by_cases e : k' = k
  · subst e
    rw [if_pos rfl, List.findIdx?_eq_none_iff.2 (by intro p hp; simpa using h p hp)]
    simp
  · rw [if_neg e]
    have : [(k, b)].findIdx? (fun p => p.1 == k') = none := by simp [Ne.symm e]
    rw [this]
    cases ls.findIdx? (fun p => p.1 == k') <;> rfl
theorem pos_le {ls : List (Nat × Nat)} {k : Nat} : pos ls k ≤ ls.length := by
  cases h : pos ls k with
  | zero => omega
  | succ j => obtain ⟨hj, _⟩ := pos_some h; omega

def lk (s : DS) (i : Int) : Option (List Int) := if 0 ≤ i ∧ i < 12 then s.fr i.toNat else none

theorem wrapi32 {n : Int} (h0 : 0 ≤ n) (h1 : n ≤ 100) : IntKind.i32.wrap n = n := by
  have e : (2 ^ IntKind.i32.bits : Int) = 4294967296 := by decide
  have e2 : (2 ^ (IntKind.i32.bits - 1) : Int) = 2147483648 := by decide
  unfold IntKind.wrap
  rw [e]
  simp only [IntKind.signed, e2]
  rw [if_neg]
  · omega
  · intro q; simp at q; omega

theorem lookup_ok {w : World} {d : Nat} {m : Mem} {s : DS} {K : Value → World → Prop} (h : Dk w d m s) (i : Int) (hN : lk s i = none → K (.slice none 0 0) w)
    (hS : ∀ p x, p ∈ m.ls → (p.1 : Int) = i → lk s i = some x → s.fr p.1 = some x → Row w p.2 5 (x.map U8) → K (buf p.2) w) : cl Try.prog 62 #[.pointer (some ⟨d, 3, none⟩), I i] K w := by
  apply c62
  unfold s62_p1
  simp only [e_fd, e_nck, e_pkt, e_pkf, e_gdtt, e_gdtf, e_gdft, e_gdff, e_ift, e_iff, e_not, e_ln, e_lnT, e_cp, e_cvi, e_ex20, e_ex21, e_ex30, e_ex31, e_ex32, e_add, e_sub, e_mul, e_quo, e_rem, e_and, e_or, e_xor, e_shl, e_shr, e_eql, e_neq, e_lss, e_leq, e_gtr, e_geq, e_beq, e_bne, e_peq1, e_peq2, e_pne1, e_pne2, e_zeq1, e_zeq2, e_zne1, e_zne2, e_feq1, e_fne1, e_feq2, e_fne2, e_seq, e_sne, e_ta1, e_ta2, Nat.zero_add, Nat.add_zero, Bool.not_true, Bool.not_false]
  by_cases h0 : i < 0
  · simp only [h0, decide_true, e_fd, e_nck, e_pkt, e_pkf, e_gdtt, e_gdtf, e_gdft, e_gdff, e_ift, e_iff, e_not, e_ln, e_lnT, e_cp, e_cvi, e_ex20, e_ex21, e_ex30, e_ex31, e_ex32, e_add, e_sub, e_mul, e_quo, e_rem, e_and, e_or, e_xor, e_shl, e_shr, e_eql, e_neq, e_lss, e_leq, e_gtr, e_geq, e_beq, e_bne, e_peq1, e_peq2, e_pne1, e_pne2, e_zeq1, e_zeq2, e_zne1, e_zne2, e_feq1, e_fne1, e_feq2, e_fne2, e_seq, e_sne, e_ta1, e_ta2, Nat.zero_add, Nat.add_zero, Bool.not_true, Bool.not_false]
    exact hN (by unfold lk; rw [if_neg (by omega)])
  · simp only [h0, decide_false, e_fd, e_nck, e_pkt, e_pkf, e_gdtt, e_gdtf, e_gdft, e_gdff, e_ift, e_iff, e_not, e_ln, e_lnT, e_cp, e_cvi, e_ex20, e_ex21, e_ex30, e_ex31, e_ex32, e_add, e_sub, e_mul, e_quo, e_rem, e_and, e_or, e_xor, e_shl, e_shr, e_eql, e_neq, e_lss, e_leq, e_gtr, e_geq, e_beq, e_bne, e_peq1, e_peq2, e_pne1, e_pne2, e_zeq1, e_zeq2, e_zne1, e_zne2, e_feq1, e_fne1, e_feq2, e_fne2, e_seq, e_sne, e_ta1, e_ta2, Nat.zero_add, Nat.add_zero, Bool.not_true, Bool.not_false]
    refine ld1_r h.disk rfl ?_
    simp only [e_fd, e_nck, e_pkt, e_pkf, e_gdtt, e_gdtf, e_gdft, e_gdff, e_ift, e_iff, e_not, e_ln, e_lnT, e_cp, e_cvi, e_ex20, e_ex21, e_ex30, e_ex31, e_ex32, e_add, e_sub, e_mul, e_quo, e_rem, e_and, e_or, e_xor, e_shl, e_shr, e_eql, e_neq, e_lss, e_leq, e_gtr, e_geq, e_beq, e_bne, e_peq1, e_peq2, e_pne1, e_pne2, e_zeq1, e_zeq2, e_zne1, e_zne2, e_feq1, e_fne1, e_feq2, e_fne2, e_seq, e_sne, e_ta1, e_ta2, Nat.zero_add, Nat.add_zero, Bool.not_true, Bool.not_false]
    by_cases h1 : ((12 : Nat) : Int) ≤ i
    · simp only [h1, decide_true, e_fd, e_nck, e_pkt, e_pkf, e_gdtt, e_gdtf, e_gdft, e_gdff, e_ift, e_iff, e_not, e_ln, e_lnT, e_cp, e_cvi, e_ex20, e_ex21, e_ex30, e_ex31, e_ex32, e_add, e_sub, e_mul, e_quo, e_rem, e_and, e_or, e_xor, e_shl, e_shr, e_eql, e_neq, e_lss, e_leq, e_gtr, e_geq, e_beq, e_bne, e_peq1, e_peq2, e_pne1, e_pne2, e_zeq1, e_zeq2, e_zne1, e_zne2, e_feq1, e_fne1, e_feq2, e_fne2, e_seq, e_sne, e_ta1, e_ta2, Nat.zero_add, Nat.add_zero, Bool.not_true, Bool.not_false]
      exact hN (by unfold lk; rw [if_neg (by omega)])
    · simp only [h1, decide_false, e_fd, e_nck, e_pkt, e_pkf, e_gdtt, e_gdtf, e_gdft, e_gdff, e_ift, e_iff, e_not, e_ln, e_lnT, e_cp, e_cvi, e_ex20, e_ex21, e_ex30, e_ex31, e_ex32, e_add, e_sub, e_mul, e_quo, e_rem, e_and, e_or, e_xor, e_shl, e_shr, e_eql, e_neq, e_lss, e_leq, e_gtr, e_geq, e_beq, e_bne, e_peq1, e_peq2, e_pne1, e_pne2, e_zeq1, e_zeq2, e_zne1, e_zne2, e_feq1, e_fne1, e_feq2, e_fne2, e_seq, e_sne, e_ta1, e_ta2, Nat.zero_add, Nat.add_zero, Bool.not_true, Bool.not_false]
      refine ld1_r h.disk rfl ?_
      obtain ⟨k, rfl⟩ : ∃ k : Nat, i = (k : Int) := ⟨i.toNat, by omega⟩
      have hlk : lk s (k : Int) = s.fr k := by unfold lk; rw [if_pos (by omega)]; rfl
      refine ⟨⟨by omega, by omega⟩, ?_⟩
      have ek : ((k : Int)).toNat = k := by omega
      rw [ek, add_mk]
      refine ld1_r (v := .int .i32 (pos m.ls k : Nat)) h.idx ?_ ?_
      · unfold idxs
        rw [List.getElem?_map, Nat.mul_one, Nat.zero_add, List.getElem?_range (by omega)]
        rfl
      simp only [e_fd, e_nck, e_pkt, e_pkf, e_gdtt, e_gdtf, e_gdft, e_gdff, e_ift, e_iff, e_not, e_ln, e_lnT, e_cp, e_cvi, e_ex20, e_ex21, e_ex30, e_ex31, e_ex32, e_add, e_sub, e_mul, e_quo, e_rem, e_and, e_or, e_xor, e_shl, e_shr, e_eql, e_neq, e_lss, e_leq, e_gtr, e_geq, e_beq, e_bne, e_peq1, e_peq2, e_pne1, e_pne2, e_zeq1, e_zeq2, e_zne1, e_zne2, e_feq1, e_fne1, e_feq2, e_fne2, e_seq, e_sne, e_ta1, e_ta2, Nat.zero_add, Nat.add_zero, Bool.not_true, Bool.not_false]
      cases hp : pos m.ls k with
      | zero =>
        have e : (((0 : Nat) : Int) == 0) = true := rfl
        simp only [e, e_fd, e_nck, e_pkt, e_pkf, e_gdtt, e_gdtf, e_gdft, e_gdff, e_ift, e_iff, e_not, e_ln, e_lnT, e_cp, e_cvi, e_ex20, e_ex21, e_ex30, e_ex31, e_ex32, e_add, e_sub, e_mul, e_quo, e_rem, e_and, e_or, e_xor, e_shl, e_shr, e_eql, e_neq, e_lss, e_leq, e_gtr, e_geq, e_beq, e_bne, e_peq1, e_peq2, e_pne1, e_pne2, e_zeq1, e_zeq2, e_zne1, e_zne2, e_feq1, e_fne1, e_feq2, e_fne2, e_seq, e_sne, e_ta1, e_ta2, Nat.zero_add, Nat.add_zero, Bool.not_true, Bool.not_false]
        exact hN (by rw [hlk]; exact h.frn k (pos_none hp))
      | succ j =>
        obtain ⟨hj, hjk⟩ := pos_some hp
        have hle := h.lsl
        have e : (((j + 1 : Nat) : Int) == 0) = false := by rw [beq_eq_false_iff_ne]; omega
        simp only [e, e_fd, e_nck, e_pkt, e_pkf, e_gdtt, e_gdtf, e_gdft, e_gdff, e_ift, e_iff, e_not, e_ln, e_lnT, e_cp, e_cvi, e_ex20, e_ex21, e_ex30, e_ex31, e_ex32, e_add, e_sub, e_mul, e_quo, e_rem, e_and, e_or, e_xor, e_shl, e_shr, e_eql, e_neq, e_lss, e_leq, e_gtr, e_geq, e_beq, e_bne, e_peq1, e_peq2, e_pne1, e_pne2, e_zeq1, e_zeq2, e_zne1, e_zne2, e_feq1, e_fne1, e_feq2, e_fne2, e_seq, e_sne, e_ta1, e_ta2, Nat.zero_add, Nat.add_zero, Bool.not_true, Bool.not_false]
        refine ld1_r h.disk rfl ?_
        rw [wrapi32 (by omega) (by omega)]
        obtain ⟨b, hb, hbr⟩ : ∃ b, m.lob = some b ∧ True := by
          cases hl : m.lob with
          | none => have := h.lines; rw [hl] at this; obtain ⟨_, e⟩ := this; rw [e] at hj; simp at hj
          | some b => exact ⟨b, rfl, trivial⟩
        have hl := h.lines
        rw [hb] at hl
        obtain ⟨cap, junk, e1, h2, h3, h4⟩ := hl
        rw [e1]
        refine ⟨⟨by omega, by omega⟩, ?_⟩
        have ej : ((((j + 1 : Nat) : Int) - 1)).toNat = j := by omega
        rw [ej, add_mk]
        simp only [e_fd, e_nck, e_pkt, e_pkf, e_gdtt, e_gdtf, e_gdft, e_gdff, e_ift, e_iff, e_not, e_ln, e_lnT, e_cp, e_cvi, e_ex20, e_ex21, e_ex30, e_ex31, e_ex32, e_add, e_sub, e_mul, e_quo, e_rem, e_and, e_or, e_xor, e_shl, e_shr, e_eql, e_neq, e_lss, e_leq, e_gtr, e_geq, e_beq, e_bne, e_peq1, e_peq2, e_pne1, e_pne2, e_zeq1, e_zeq2, e_zne1, e_zne2, e_feq1, e_fne1, e_feq2, e_fne2, e_seq, e_sne, e_ta1, e_ta2, Nat.zero_add, Nat.add_zero, Bool.not_true, Bool.not_false]
        obtain ⟨_, x, hx1, hx2⟩ := h.lin m.ls[j] (List.getElem_mem hj)
        refine ld1_r (v := buf (m.ls[j]).2) h4 ?_ ?_
        · have hle := rows_le lnV_len m.ls j hj
          have := rows_get lnV_len m.ls j hj 1 (by omega)
          rw [List.getElem?_append_left (by omega), this]
          rfl
        · exact hS m.ls[j] x (List.getElem_mem hj) (by rw [hjk]) (by rw [hlk, ← hjk]; exact hx1) hx1 hx2
end Go.Proofs.Qxb6500895a
