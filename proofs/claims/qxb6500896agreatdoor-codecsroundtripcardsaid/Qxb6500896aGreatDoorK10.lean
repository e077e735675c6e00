import Derived.Test.Qxb6500896aGreatDoorK9
import Derived.Test.Qxb6500896aGreatDoorGc
namespace Go.Proofs.Qxb6500896aGreatDoor
open Go.Sh Go.RowKit
set_option linter.unusedVariables false
set_option linter.unusedSimpArgs false

structure Leg where
  a : Int
  s : Int
def lC (l : Leg) : List Value := [I l.a, I l.s]
theorem lC_len (l : Leg) : (lC l).length = 2 := rfl
theorem lC_sc (l : Leg) : (lC l).all scal = true := rfl
structure Rec where
  id : Int
  st : Int
  cl : Int
  sz : Int
  ln : Int
  ex : Int
  legs : List Leg
def rC (p : Rec × Value) : List Value := [I p.1.id, I p.1.st, I p.1.cl, I p.1.sz, I p.1.ln, I p.1.ex, p.2]
theorem rC_len (p : Rec × Value) : (rC p).length = 7 := rfl
theorem rC_sc {p : Rec × Value} (h : scal p.2 = true) : (rC p).all scal = true := by simp only [rC, List.all_cons, List.all_nil, h]; rfl
/-- a table's records -/
def Rs (M : Nat → Prop) (w : World) (rob : Option Nat) (rv : Value) (rs : List Rec) : Prop :=
  ∃ its : List (Rec × Value), its.map (·.1) = rs ∧ Sl rC 7 w 66 rob rv its ∧ (∀ b, rob = some b → M b) ∧ ∀ p ∈ its, Ai lC 2 M w p.2 p.1.legs
/-- records that are only read -/
def Ro (F : Nat → Prop) (w : World) (rv : Value) (rs : List Rec) : Prop :=
  ∃ its : List (Rec × Value), its.map (·.1) = rs ∧ Ar rC 7 F w rv its ∧ ∀ p ∈ its, Ar lC 2 F w p.2 p.1.legs
abbrev Ri (M : Nat → Prop) (w : World) (rv : Value) (rs : List Rec) : Prop := Ro (Im M w) w rv rs
/-- a table that is only read -/
structure Tr (F : Nat → Prop) (w : World) (t : Nat) (C : Cfg) (rs : List Rec) : Prop where
  ex : ∃ cl rv, Row w t 190 (cl ++ [rv]) ∧ Cg F w cl C ∧ Ro F w rv rs
  len : rs.length ≤ 16777216
/-- a booking table in memory -/
structure Tb (M : Nat → Prop) (w : World) (t : Nat) (rob : Option Nat) (C : Cfg) (rs : List Rec) : Prop where
  ex : ∃ cl rv, Row w t 190 (cl ++ [rv]) ∧ Cg (Im M w) w cl C ∧ Rs M w rob rv rs
  mt : M t
  lt : ∀ b, M b → b < w.heap.size
  len : rs.length ≤ 16777216
abbrev OwnT (t : Nat) (rob : Option Nat) (b : Nat) : Prop := b = t ∨ rob = some b
section
variable {α : Type} {f : α → List Value} {k : Nat} {F M M' S : Nat → Prop} {w w' w1 : World} {v rv : Value} {xs : List α} {t : Nat} {rob : Option Nat} {C : Cfg} {rs : List Rec} {K : Value → World → Prop}
theorem Cg.ext {l : List Value} (h : Cg (Im M w) w l C) (hx : Ext M M' w w') (hk : Kp S w w') (hS : ∀ b, S b → b < w.heap.size → M b) : Cg (Im M' w') w' l C :=
  (h.kp hk fun b hb q => hb.1 (hS b q hb.2)).mono fun b hb => hb.ext hx
theorem Rs.ext (h : Rs M w rob rv rs) (hx : Ext M M' w w') (hk : Kp S w w') (hS : ∀ b, S b → b < w.heap.size → M b) (hr : ∀ b, rob = some b → ¬ S b) : Rs M' w' rob rv rs := by
  obtain ⟨its, h1, h2, h3, h4⟩ := h
  exact ⟨its, h1, h2.kp hk hr, fun b e => hx.sub b (h3 b e), fun p hp => (h4 p hp).ext hx hk hS⟩
theorem Ri.ext (h : Ri M w rv rs) (hx : Ext M M' w w') (hk : Kp S w w') (hS : ∀ b, S b → b < w.heap.size → M b) : Ri M' w' rv rs := by
  obtain ⟨its, h1, h2, h4⟩ := h
  exact ⟨its, h1, Ai.ext h2 hx hk hS, fun p hp => Ai.ext (h4 p hp) hx hk hS⟩
theorem Ro.ln {w2 : World} (h : Ro F w rv rs) (hK : K (I (rs.length : Nat)) w2) : lnS rv K w2 := by
  obtain ⟨its, h1, h2, h4⟩ := h
  rw [← h1, List.length_map] at hK
  exact h2.ln hK
theorem Ro.kp' (h : Ro F w rv rs) (hk : Kp Emp w w') : Ro F w' rv rs := by
  obtain ⟨its, h1, h2, h4⟩ := h
  exact ⟨its, h1, Ar.kp' h2 hk, fun p hp => Ar.kp' (h4 p hp) hk⟩
theorem Ro.mono {G : Nat → Prop} (h : Ro F w rv rs) (hs : ∀ b, F b → G b) : Ro G w rv rs := by
  obtain ⟨its, h1, h2, h4⟩ := h
  exact ⟨its, h1, h2.mono hs, fun p hp => (h4 p hp).mono hs⟩
theorem Tr.kp' (h : Tr F w t C rs) (hk : Kp Emp w w') : Tr F w' t C rs := by
  obtain ⟨cl, rv, r, hc, hr⟩ := h.ex
  exact ⟨⟨cl, rv, hk.row' r, hc.kp' hk, hr.kp' hk⟩, h.len⟩
theorem Ri.kp' (h : Ri M w rv rs) (hk : Kp Emp w w') : Ri M w' rv rs := by
  obtain ⟨its, h1, h2, h4⟩ := h
  exact ⟨its, h1, Ai.kp' h2 hk, fun p hp => Ai.kp' (h4 p hp) hk⟩
theorem Tb.ext (h : Tb M w t rob C rs) (hx : Ext M M' w w') (hk : Kp S w w') (hS : ∀ b, S b → b < w.heap.size → M b) (hn : ∀ b, OwnT t rob b → ¬ S b) : Tb M' w' t rob C rs := by
  obtain ⟨cl, rv, r, hc, hr⟩ := h.ex
  exact ⟨⟨cl, rv, hk.row r (hn t (.inl rfl)), hc.ext hx hk hS, hr.ext hx hk hS fun b e => hn b (.inr e)⟩, hx.sub t h.mt, hx.lt, h.len⟩
theorem Tb.kp' (h : Tb M w t rob C rs) (hk : Kp Emp w w') : Tb M w' t rob C rs := h.ext (Ext.same h.lt hk) hk (fun _ q => q.elim) (fun _ _ q => q)
theorem Tb.tr (h : Tb M w t rob C rs) : Tr (fun _ => True) w t C rs := by
  obtain ⟨cl, rv, r, hc, its, e1, e2, e3, e4⟩ := h.ex
  have hl : its.length = rs.length := by rw [← e1, List.length_map]
  have hn := h.len
  exact ⟨⟨cl, rv, r, hc.mono fun _ _ => trivial, its, e1, e2.ar rC_len (by omega) (fun _ _ => trivial), fun p hp => (e4 p hp).mono fun _ _ => trivial⟩, h.len⟩
theorem Tb.own (h : Tb M w t rob C rs) {b : Nat} (hb : OwnT t rob b) : M b := by
  rcases hb with rfl | e
  · exact h.mt
  · obtain ⟨cl, rv, r, hc, its, _, _, h3, _⟩ := h.ex
    exact h3 b e
theorem Rs.ln {w2 : World} (h : Rs M w rob rv rs) (hK : K (I (rs.length : Nat)) w2) : lnS rv K w2 := by
  obtain ⟨its, h1, h2, h3, h4⟩ := h
  rw [← h1, List.length_map] at hK
  cases rob with
  | none => obtain ⟨rfl, rfl⟩ := h2; exact hK
  | some b => obtain ⟨cap, junk, rfl, _⟩ := h2; exact hK
/-- an item is loaded into a variable of its own -/
theorem each_r {T : TypeId} {a : Array Value} {q : IntKind} {i : Nat} {X : Value → World → Prop} (ha : a.toList.length = k) (h : Ar f k F w v xs) (hi : i < xs.length) (hl : (f xs[i]).length = k) (hs : (f xs[i]).all scal = true)
    (hX : ∀ w', Row w' w.heap.size T (f xs[i]) → Kp Emp w w' → w'.heap.size = w.heap.size + 1 → X (P w.heap.size 0) w') :
    ixs k v (.int q i) (fun t w => ldn k t (fun u w => nw T a (fun p w => stn k p u (fun w => X p w) w) w) w) w := by
  refine h.ix hi fun b o _ hc => ?_
  refine hc.ldn hl ?_
  refine nw_r fun w1 r1 hk1 hz1 => ?_
  refine stn_r (cs := f xs[i]) r1 hl (by rw [ha]; omega) hs fun w2 r2 hk2 hz2 => ?_
  have e2 : List.take 0 a.toList ++ (f xs[i] ++ List.drop (0 + k) a.toList) = f xs[i] := by
    rw [List.take_zero, List.nil_append, Nat.zero_add, List.drop_of_length_le (by omega), List.append_nil]
  rw [e2] at r2
  exact hX w2 r2 (hk1.then hk2 fun k hk (q : k = _) => by omega) (by omega)
def live (st : Int) : Bool := st == 1 || st == 2 || st == 3 || st == 8
theorem live_ok {st : Int} (hK : K (.bool (live st)) w) : cl Tryz.prog 135 #[I st] K w := by
  apply c135
  unfold s135_p1
  unfold live at hK
  try simp only [e_fd, e_nck, e_pkt, e_pkf, e_gdtt, e_gdtf, e_gdft, e_gdff, e_ift, e_iff, e_not, e_ln, e_lnT, e_cp, e_cvi, e_ex20, e_ex21, e_ex30, e_ex31, e_ex32, e_add, e_sub, e_mul, e_quo, e_rem, e_and, e_or, e_xor, e_shl, e_shr, e_eql, e_neq, e_lss, e_leq, e_gtr, e_geq, e_beq, e_bne, e_peq1, e_peq2, e_pne1, e_pne2, e_zeq1, e_zeq2, e_zne1, e_zne2, e_feq1, e_fne1, e_feq2, e_fne2, e_seq, e_sne, e_ta1, e_ta2, Nat.zero_add, Nat.add_zero, Bool.not_true, Bool.not_false]
  cases h1 : (st == 1) with
  | true => rw [h1] at hK; simp only [Bool.true_or, e_fd, e_nck, e_pkt, e_pkf, e_gdtt, e_gdtf, e_gdft, e_gdff, e_ift, e_iff, e_not, e_ln, e_lnT, e_cp, e_cvi, e_ex20, e_ex21, e_ex30, e_ex31, e_ex32, e_add, e_sub, e_mul, e_quo, e_rem, e_and, e_or, e_xor, e_shl, e_shr, e_eql, e_neq, e_lss, e_leq, e_gtr, e_geq, e_beq, e_bne, e_peq1, e_peq2, e_pne1, e_pne2, e_zeq1, e_zeq2, e_zne1, e_zne2, e_feq1, e_fne1, e_feq2, e_fne2, e_seq, e_sne, e_ta1, e_ta2, Nat.zero_add, Nat.add_zero, Bool.not_true, Bool.not_false] at hK ⊢; exact hK
  | false =>
    rw [h1] at hK; simp only [Bool.false_or, e_fd, e_nck, e_pkt, e_pkf, e_gdtt, e_gdtf, e_gdft, e_gdff, e_ift, e_iff, e_not, e_ln, e_lnT, e_cp, e_cvi, e_ex20, e_ex21, e_ex30, e_ex31, e_ex32, e_add, e_sub, e_mul, e_quo, e_rem, e_and, e_or, e_xor, e_shl, e_shr, e_eql, e_neq, e_lss, e_leq, e_gtr, e_geq, e_beq, e_bne, e_peq1, e_peq2, e_pne1, e_pne2, e_zeq1, e_zeq2, e_zne1, e_zne2, e_feq1, e_fne1, e_feq2, e_fne2, e_seq, e_sne, e_ta1, e_ta2, Nat.zero_add, Nat.add_zero, Bool.not_true, Bool.not_false] at hK ⊢
    cases h2 : (st == 2) with
    | true => rw [h2] at hK; simp only [Bool.true_or, e_fd, e_nck, e_pkt, e_pkf, e_gdtt, e_gdtf, e_gdft, e_gdff, e_ift, e_iff, e_not, e_ln, e_lnT, e_cp, e_cvi, e_ex20, e_ex21, e_ex30, e_ex31, e_ex32, e_add, e_sub, e_mul, e_quo, e_rem, e_and, e_or, e_xor, e_shl, e_shr, e_eql, e_neq, e_lss, e_leq, e_gtr, e_geq, e_beq, e_bne, e_peq1, e_peq2, e_pne1, e_pne2, e_zeq1, e_zeq2, e_zne1, e_zne2, e_feq1, e_fne1, e_feq2, e_fne2, e_seq, e_sne, e_ta1, e_ta2, Nat.zero_add, Nat.add_zero, Bool.not_true, Bool.not_false] at hK ⊢; exact hK
    | false =>
      rw [h2] at hK; simp only [Bool.false_or, e_fd, e_nck, e_pkt, e_pkf, e_gdtt, e_gdtf, e_gdft, e_gdff, e_ift, e_iff, e_not, e_ln, e_lnT, e_cp, e_cvi, e_ex20, e_ex21, e_ex30, e_ex31, e_ex32, e_add, e_sub, e_mul, e_quo, e_rem, e_and, e_or, e_xor, e_shl, e_shr, e_eql, e_neq, e_lss, e_leq, e_gtr, e_geq, e_beq, e_bne, e_peq1, e_peq2, e_pne1, e_pne2, e_zeq1, e_zeq2, e_zne1, e_zne2, e_feq1, e_fne1, e_feq2, e_fne2, e_seq, e_sne, e_ta1, e_ta2, Nat.zero_add, Nat.add_zero, Bool.not_true, Bool.not_false] at hK ⊢
      cases h3 : (st == 3) with
      | true => rw [h3] at hK; simp only [Bool.true_or, e_fd, e_nck, e_pkt, e_pkf, e_gdtt, e_gdtf, e_gdft, e_gdff, e_ift, e_iff, e_not, e_ln, e_lnT, e_cp, e_cvi, e_ex20, e_ex21, e_ex30, e_ex31, e_ex32, e_add, e_sub, e_mul, e_quo, e_rem, e_and, e_or, e_xor, e_shl, e_shr, e_eql, e_neq, e_lss, e_leq, e_gtr, e_geq, e_beq, e_bne, e_peq1, e_peq2, e_pne1, e_pne2, e_zeq1, e_zeq2, e_zne1, e_zne2, e_feq1, e_fne1, e_feq2, e_fne2, e_seq, e_sne, e_ta1, e_ta2, Nat.zero_add, Nat.add_zero, Bool.not_true, Bool.not_false] at hK ⊢; exact hK
      | false =>
        rw [h3] at hK; simp only [Bool.false_or, e_fd, e_nck, e_pkt, e_pkf, e_gdtt, e_gdtf, e_gdft, e_gdff, e_ift, e_iff, e_not, e_ln, e_lnT, e_cp, e_cvi, e_ex20, e_ex21, e_ex30, e_ex31, e_ex32, e_add, e_sub, e_mul, e_quo, e_rem, e_and, e_or, e_xor, e_shl, e_shr, e_eql, e_neq, e_lss, e_leq, e_gtr, e_geq, e_beq, e_bne, e_peq1, e_peq2, e_pne1, e_pne2, e_zeq1, e_zeq2, e_zne1, e_zne2, e_feq1, e_fne1, e_feq2, e_fne2, e_seq, e_sne, e_ta1, e_ta2, Nat.zero_add, Nat.add_zero, Bool.not_true, Bool.not_false] at hK ⊢
        exact hK
theorem len_ok (h : Tb M w t rob C rs) (hK : K (I (rs.length : Nat)) w) : cl Tryz.prog 109 #[P t 0] K w := by
  obtain ⟨cl, rv, r, hc, hr⟩ := h.ex
  have hcl := hc.len
  apply c109
  unfold s109_p1
  try simp only [e_fd, e_nck, e_pkt, e_pkf, e_gdtt, e_gdtf, e_gdft, e_gdff, e_ift, e_iff, e_not, e_ln, e_lnT, e_cp, e_cvi, e_ex20, e_ex21, e_ex30, e_ex31, e_ex32, e_add, e_sub, e_mul, e_quo, e_rem, e_and, e_or, e_xor, e_shl, e_shr, e_eql, e_neq, e_lss, e_leq, e_gtr, e_geq, e_beq, e_bne, e_peq1, e_peq2, e_pne1, e_pne2, e_zeq1, e_zeq2, e_zne1, e_zne2, e_feq1, e_fne1, e_feq2, e_fne2, e_seq, e_sne, e_ta1, e_ta2, Nat.zero_add, Nat.add_zero, Bool.not_true, Bool.not_false]
  refine ld1_r (v := rv) r (by rw [List.getElem?_append_right (by omega), hcl]; rfl) ?_
  exact hr.ln hK
/-- a pointer to a record, or nil -/
theorem find_ok {id : Int} (hid : small id ∨ (0 ≤ id ∧ id ≤ 9223372036854775807)) (h : Tb M w t rob C rs) (hno : ¬ (1 ≤ id ∧ id ≤ ((rs.length : Nat) : Int)) → K (.pointer none) w)
    (hyes : ∀ (i b : Nat) (l : List Value) (p : Rec × Value), id = ((i + 1 : Nat) : Int) → i < rs.length → rs[i]? = some p.1 → rob = some b → Row w b 66 l → (∀ j, j < 7 → l[i * 7 + j]? = (rC p)[j]?) → i * 7 + 7 ≤ l.length → Ai lC 2 M w p.2 p.1.legs → K (P b (i * 7)) w) : cl Tryz.prog 138 #[P t 0, I id] K w := by
  obtain ⟨cl, rv, r, hc, hr⟩ := h.ex
  have hcl := hc.len
  have hlen := h.len
  have r14 : (cl ++ [rv])[14]? = some rv := by rw [List.getElem?_append_right (by omega), hcl]; rfl
  apply c138
  unfold s138_p1
  try simp only [e_fd, e_nck, e_pkt, e_pkf, e_gdtt, e_gdtf, e_gdft, e_gdff, e_ift, e_iff, e_not, e_ln, e_lnT, e_cp, e_cvi, e_ex20, e_ex21, e_ex30, e_ex31, e_ex32, e_add, e_sub, e_mul, e_quo, e_rem, e_and, e_or, e_xor, e_shl, e_shr, e_eql, e_neq, e_lss, e_leq, e_gtr, e_geq, e_beq, e_bne, e_peq1, e_peq2, e_pne1, e_pne2, e_zeq1, e_zeq2, e_zne1, e_zne2, e_feq1, e_fne1, e_feq2, e_fne2, e_seq, e_sne, e_ta1, e_ta2, Nat.zero_add, Nat.add_zero, Bool.not_true, Bool.not_false]
  by_cases h1 : id < 1
  · simp only [h1, decide_true, e_fd, e_nck, e_pkt, e_pkf, e_gdtt, e_gdtf, e_gdft, e_gdff, e_ift, e_iff, e_not, e_ln, e_lnT, e_cp, e_cvi, e_ex20, e_ex21, e_ex30, e_ex31, e_ex32, e_add, e_sub, e_mul, e_quo, e_rem, e_and, e_or, e_xor, e_shl, e_shr, e_eql, e_neq, e_lss, e_leq, e_gtr, e_geq, e_beq, e_bne, e_peq1, e_peq2, e_pne1, e_pne2, e_zeq1, e_zeq2, e_zne1, e_zne2, e_feq1, e_fne1, e_feq2, e_fne2, e_seq, e_sne, e_ta1, e_ta2, Nat.zero_add, Nat.add_zero, Bool.not_true, Bool.not_false]
    exact hno (by omega)
  · simp only [h1, decide_false, e_fd, e_nck, e_pkt, e_pkf, e_gdtt, e_gdtf, e_gdft, e_gdff, e_ift, e_iff, e_not, e_ln, e_lnT, e_cp, e_cvi, e_ex20, e_ex21, e_ex30, e_ex31, e_ex32, e_add, e_sub, e_mul, e_quo, e_rem, e_and, e_or, e_xor, e_shl, e_shr, e_eql, e_neq, e_lss, e_leq, e_gtr, e_geq, e_beq, e_bne, e_peq1, e_peq2, e_pne1, e_pne2, e_zeq1, e_zeq2, e_zne1, e_zne2, e_feq1, e_fne1, e_feq2, e_fne2, e_seq, e_sne, e_ta1, e_ta2, Nat.zero_add, Nat.add_zero, Bool.not_true, Bool.not_false]
    refine ld1_r (v := rv) r r14 ?_
    refine hr.ln ?_
    try simp only [e_fd, e_nck, e_pkt, e_pkf, e_gdtt, e_gdtf, e_gdft, e_gdff, e_ift, e_iff, e_not, e_ln, e_lnT, e_cp, e_cvi, e_ex20, e_ex21, e_ex30, e_ex31, e_ex32, e_add, e_sub, e_mul, e_quo, e_rem, e_and, e_or, e_xor, e_shl, e_shr, e_eql, e_neq, e_lss, e_leq, e_gtr, e_geq, e_beq, e_bne, e_peq1, e_peq2, e_pne1, e_pne2, e_zeq1, e_zeq2, e_zne1, e_zne2, e_feq1, e_fne1, e_feq2, e_fne2, e_seq, e_sne, e_ta1, e_ta2, Nat.zero_add, Nat.add_zero, Bool.not_true, Bool.not_false]
    by_cases h2 : ((rs.length : Nat) : Int) < id
    · simp only [h2, decide_true, e_fd, e_nck, e_pkt, e_pkf, e_gdtt, e_gdtf, e_gdft, e_gdff, e_ift, e_iff, e_not, e_ln, e_lnT, e_cp, e_cvi, e_ex20, e_ex21, e_ex30, e_ex31, e_ex32, e_add, e_sub, e_mul, e_quo, e_rem, e_and, e_or, e_xor, e_shl, e_shr, e_eql, e_neq, e_lss, e_leq, e_gtr, e_geq, e_beq, e_bne, e_peq1, e_peq2, e_pne1, e_pne2, e_zeq1, e_zeq2, e_zne1, e_zne2, e_feq1, e_fne1, e_feq2, e_fne2, e_seq, e_sne, e_ta1, e_ta2, Nat.zero_add, Nat.add_zero, Bool.not_true, Bool.not_false]
      exact hno (by omega)
    · simp only [h2, decide_false, e_fd, e_nck, e_pkt, e_pkf, e_gdtt, e_gdtf, e_gdft, e_gdff, e_ift, e_iff, e_not, e_ln, e_lnT, e_cp, e_cvi, e_ex20, e_ex21, e_ex30, e_ex31, e_ex32, e_add, e_sub, e_mul, e_quo, e_rem, e_and, e_or, e_xor, e_shl, e_shr, e_eql, e_neq, e_lss, e_leq, e_gtr, e_geq, e_beq, e_bne, e_peq1, e_peq2, e_pne1, e_pne2, e_zeq1, e_zeq2, e_zne1, e_zne2, e_feq1, e_fne1, e_feq2, e_fne2, e_seq, e_sne, e_ta1, e_ta2, Nat.zero_add, Nat.add_zero, Bool.not_true, Bool.not_false]
      refine ld1_r (v := rv) r r14 ?_
      try simp only [e_fd, e_nck, e_pkt, e_pkf, e_gdtt, e_gdtf, e_gdft, e_gdff, e_ift, e_iff, e_not, e_ln, e_lnT, e_cp, e_cvi, e_ex20, e_ex21, e_ex30, e_ex31, e_ex32, e_add, e_sub, e_mul, e_quo, e_rem, e_and, e_or, e_xor, e_shl, e_shr, e_eql, e_neq, e_lss, e_leq, e_gtr, e_geq, e_beq, e_bne, e_peq1, e_peq2, e_pne1, e_pne2, e_zeq1, e_zeq2, e_zne1, e_zne2, e_feq1, e_fne1, e_feq2, e_fne2, e_seq, e_sne, e_ta1, e_ta2, Nat.zero_add, Nat.add_zero, Bool.not_true, Bool.not_false]
      rw [wrap64_id (by omega) (by omega)]
      obtain ⟨i, hi⟩ : ∃ i : Nat, id = ((i + 1 : Nat) : Int) := ⟨(id - 1).toNat, by omega⟩
      obtain ⟨its, e1, e2, e3, e4⟩ := hr
      have hl : its.length = rs.length := by rw [← e1, List.length_map]
      have hlt : i < its.length := by omega
      rw [show id - 1 = ((i : Nat) : Int) by omega]
      cases rob with
      | none => obtain ⟨_, rfl⟩ := e2; simp at hlt
      | some b =>
        obtain ⟨cap, junk, rfl, q1, q2, q3⟩ := e2
        refine ⟨⟨by omega, by omega⟩, ?_⟩
        have ei : ((i : Nat) : Int).toNat = i := by omega
        rw [ei, add_mk, Nat.zero_add]
        have hle := rows_le rC_len its i hlt
        refine hyes i b _ its[i] hi (by omega) (by rw [← e1, List.getElem?_map, List.getElem?_eq_getElem hlt]; rfl) rfl q3 (fun j hj => ?_) (by rw [List.length_append]; omega) (e4 _ (List.getElem_mem hlt))
        rw [List.getElem?_append_left (by omega), rows_get rC_len its i hlt j hj]
end
end Go.Proofs.Qxb6500896aGreatDoor
