import Derived.Test.Qxb6500896aGreatDoorK31
namespace Go.Proofs.Qxb6500896aGreatDoor
open Go.Sh Go.RowKit
set_option linter.unusedVariables false
set_option linter.unusedSimpArgs false

def rget (rs : List Rec) (id : Int) : Rec := (rs[(id - 1).toNat]?).getD zRec
def rset (rs : List Rec) (id : Int) (r : Rec) : List Rec := rs.set (id - 1).toNat r
abbrev has (rs : List Rec) (id : Int) : Prop := 1 ≤ id ∧ id ≤ ((rs.length : Nat) : Int)
theorem rget_at {rs : List Rec} {id : Int} {i : Nat} (h : id = ((i + 1 : Nat) : Int)) (hi : i < rs.length) : rget rs id = rs[i] := by
  unfold rget
  rw [h, show (((i + 1 : Nat) : Int) - 1).toNat = i by omega, List.getElem?_eq_getElem hi]; rfl
theorem rset_at {rs : List Rec} {id : Int} {i : Nat} {r : Rec} (h : id = ((i + 1 : Nat) : Int)) : rset rs id r = rs.set i r := by
  unfold rset
  rw [h, show (((i + 1 : Nat) : Int) - 1).toNat = i by omega]
def tConfirm (C : Cfg) (now id : Int) (rs : List Rec) : List Rec × Int :=
  if has rs id then (if (rget rs id).st = 1 then (if (fst0 (rget rs id)).s + C.gr ≤ now then (rs, 16) else (rset rs id { rget rs id with st := 2 }, 0)) else (rs, 8)) else (rs, 2)
def tCancel (id : Int) (rs : List Rec) : List Rec × Int :=
  if has rs id then (if (rget rs id).st = 1 ∨ (rget rs id).st = 2 ∨ (rget rs id).st = 8 then (rset rs id { rget rs id with st := 4 }, 0) else (rs, 8)) else (rs, 2)
def tArrive (now id st : Int) (rs : List Rec) : List Rec × Int :=
  if has rs id then (if (rget rs id).st = st then (if now < (fst0 (rget rs id)).s then (rs, 15) else (rset rs id { rget rs id with st := 3 }, 0)) else (rs, 8)) else (rs, 2)
def tWithdraw (id : Int) (rs : List Rec) : List Rec × Int :=
  if has rs id then (if (rget rs id).st = 7 then (rset rs id { rget rs id with st := 4 }, 0) else (rs, 8)) else (rs, 2)
/-- what is known of a table's records -/
structure TI (C : Cfg) (rs : List Rec) : Prop where
  rl : ∀ r ∈ rs, RL C r
  lv : ∀ r ∈ rs, live r.st = true → 1 ≤ r.legs.length
theorem TI.rb {C : Cfg} {rs : List Rec} (h : TI C rs) : RBs rs := fun r hr => (h.rl r hr).rb
theorem bne_f {a b : Int} (h : a = b) : (a != b) = false := by rw [h]; simp
theorem bne_t {a b : Int} (h : a ≠ b) : (a != b) = true := by rw [bne_iff_ne]; exact h
section
variable {F M M' S : Nat → Prop} {w w' w1 : World} {v lv rv : Value} {t b i : Nat} {rob : Option Nat} {C : Cfg} {rs : List Rec} {K : Value → World → Prop} {ls : List Leg} {now id : Int}
abbrev TbK (M : Nat → Prop) (w : World) (t : Nat) (rob : Option Nat) (C : Cfg) (rs' : List Rec) (X : World → Prop) : Prop :=
  ∀ w' M' rob', Ext M M' w w' → Kp (OwnT t rob) w w' → (∀ b, OwnT t rob' b → OwnT t rob b ∨ w.heap.size ≤ b) → Tb M' w' t rob' C rs' → X w'
theorem Tb.same (h : Tb M w t rob C rs) {X : World → Prop} (hX : TbK M w t rob C rs X) (hk : Kp Emp w w') : X w' := hX w' M rob (Ext.same h.lt hk) hk.none (fun b q => .inl q) (h.kp' hk)
theorem tb_row (h : Tb M w t (some b) C rs) (hi : i < rs.length) : ∃ l lv, Row w b 66 l ∧ (∀ j, j < 7 → l[i * 7 + j]? = (rC (rs[i], lv))[j]?) ∧ i * 7 + 7 ≤ l.length ∧ Ai lC 2 M w lv rs[i].legs := by
  obtain ⟨cl, rv, r, hc, its, e1, e2, e3, e4⟩ := h.ex
  have hl : its.length = rs.length := by rw [← e1, List.length_map]
  have hlt : i < its.length := by omega
  obtain ⟨cap, junk, h1, h2, h3, h4⟩ := e2
  have ei : its[i].1 = rs[i] := by
    have : (its.map (·.1))[i]? = rs[i]? := by rw [e1]
    rw [List.getElem?_map, List.getElem?_eq_getElem hlt, List.getElem?_eq_getElem hi] at this
    exact Option.some.inj this
  have hrl := rows_length rC_len its
  refine ⟨_, its[i].2, h4, fun j hj => ?_, ?_, ?_⟩
  · rw [List.getElem?_append_left (by rw [hrl]; omega), ← ei]
    exact rows_get rC_len its i hlt j hj
  · rw [List.length_append, hrl]; omega
  · rw [← ei]; exact e4 _ (List.getElem_mem hlt)
theorem tb_ld {j : Nat} {x : Value} (h : Tb M w t (some b) C rs) (hi : i < rs.length) (hj : j < 6) (hx : ∀ lv, (rC (rs[i], lv))[j]? = some x) (hK : K x w) : ld1 (P b (i * 7 + j)) K w := by
  obtain ⟨l, lv, r, h1, _⟩ := tb_row h hi
  exact ld1_r r (by rw [h1 j (by omega), hx]) hK
theorem tb_lg (h : Tb M w t (some b) C rs) (hi : i < rs.length) (hK : ∀ lv, Ai lC 2 M w lv rs[i].legs → K lv w) : ld1 (P b (i * 7 + 6)) K w := by
  obtain ⟨l, lv, r, h1, _, h3⟩ := tb_row h hi
  exact ld1_r r (by rw [h1 6 (by omega)]; rfl) (hK lv h3)
/-- a cell of a record is set -/
theorem tb_st {j : Nat} {x : Value} {r' : Rec} {kk : World → Prop} (h : Tb M w t (some b) C rs) (hi : i < rs.length) (hj : j < 7) (hx : scal x = true)
    (hr : ∀ lv, Ai lC 2 M w lv rs[i].legs → ∃ lv', rC (r', lv') = (rC (rs[i], lv)).set j x ∧ Ai lC 2 M w lv' r'.legs)
    (hK : ∀ w', Tb M w' t (some b) C (rs.set i r') → Kp (fun c => c = b) w w' → w'.heap.size = w.heap.size → kk w') : st1 (P b (i * 7 + j)) x kk w := by
  obtain ⟨cl, rv, r, hc, its, e1, e2, e3, e4⟩ := h.ex
  have hl : its.length = rs.length := by rw [← e1, List.length_map]
  have hlt : i < its.length := by omega
  have ei : its[i].1 = rs[i] := by
    have : (its.map (·.1))[i]? = rs[i]? := by rw [e1]
    rw [List.getElem?_map, List.getElem?_eq_getElem hlt, List.getElem?_eq_getElem hi] at this
    exact Option.some.inj this
  have hai := e4 _ (List.getElem_mem hlt)
  rw [ei] at hai
  obtain ⟨lv', hr1, hr2⟩ := hr _ hai
  have Mb := e3 b rfl
  obtain ⟨l2, rb⟩ := e2.row rfl
  have hne : t ≠ b := row_ne r rb (by decide)
  refine sl_upd e2 rC_len (y := (r', lv')) hlt hj hx (by rw [hr1, ← ei]) fun w1 s1 hk1 hz1 => ?_
  have hS : ∀ c, c = b → c < w.heap.size → M c := fun c q _ => q ▸ Mb
  have hx1 := Ext.same h.lt hk1
  refine hK w1 ⟨⟨cl, rv, hk1.row r hne, hc.ext hx1 hk1 hS, its.set i (r', lv'), by rw [List.map_set, e1], s1, e3, fun p hp => ?_⟩, h.mt, fun c q => by have := h.lt c q; omega, by rw [List.length_set]; exact h.len⟩ hk1 hz1
  rcases List.mem_or_eq_of_mem_set hp with q | q
  · exact (e4 p q).kp hk1 hS
  · rw [q]; exact hr2.kp hk1 hS
theorem tb_status {n : Int} {kk : World → Prop} (h : Tb M w t (some b) C rs) (hi : i < rs.length)
    (hK : ∀ w', Tb M w' t (some b) C (rs.set i { rs[i] with st := n }) → Kp (fun c => c = b) w w' → w'.heap.size = w.heap.size → kk w') : st1 (P b (i * 7 + 1)) (I n) kk w :=
  tb_st (r' := { rs[i] with st := n }) h hi (by decide) rfl (fun lv hl => ⟨lv, rfl, hl⟩) hK
theorem find2 (hid : 0 ≤ id ∧ id ≤ 9223372036854775807) (h : Tb M w t rob C rs) (hno : ¬ has rs id → K (.pointer none) w)
    (hyes : ∀ (i b : Nat), id = ((i + 1 : Nat) : Int) → i < rs.length → rob = some b → K (P b (i * 7)) w) : cl Tryz.prog 138 #[P t 0, I id] K w :=
  find_ok (.inr hid) h hno fun i b l p h1 h2 h3 h4 _ _ _ _ => hyes i b h1 h2 h4
theorem confirm_ok (cv : CV C) (hT : TI C rs) (hn : 0 ≤ now ∧ now ≤ 1099511627776) (hid : 0 ≤ id ∧ id ≤ 9223372036854775807) (h : Tb M w t rob C rs)
    (hK : TbK M w t rob C (tConfirm C now id rs).1 (K (I (tConfirm C now id rs).2))) : cl Tryz.prog 119 #[P t 0, I now, I id] K w := by
  unfold tConfirm at hK
  have gr := cv.gr
  apply c119
  unfold s119_p3
  refine find2 hid h (fun hno => ?_) fun i b hi hlt hb => ?_
  · rw [if_neg hno] at hK
    try simp only [e_fd, e_nck, e_pkt, e_pkf, e_gdtt, e_gdtf, e_gdft, e_gdff, e_ift, e_iff, e_not, e_ln, e_lnT, e_cp, e_cvi, e_ex20, e_ex21, e_ex30, e_ex31, e_ex32, e_add, e_sub, e_mul, e_quo, e_rem, e_and, e_or, e_xor, e_shl, e_shr, e_eql, e_neq, e_lss, e_leq, e_gtr, e_geq, e_beq, e_bne, e_peq1, e_peq2, e_pne1, e_pne2, e_zeq1, e_zeq2, e_zne1, e_zne2, e_feq1, e_fne1, e_feq2, e_fne2, e_seq, e_sne, e_ta1, e_ta2, Nat.zero_add, Nat.add_zero, Bool.not_true, Bool.not_false]
    exact h.same hK (Kp.refl _ _)
  subst hb
  rw [if_pos ⟨by omega, by omega⟩, rget_at hi hlt, rset_at hi] at hK
  try simp only [e_fd, e_nck, e_pkt, e_pkf, e_gdtt, e_gdtf, e_gdft, e_gdff, e_ift, e_iff, e_not, e_ln, e_lnT, e_cp, e_cvi, e_ex20, e_ex21, e_ex30, e_ex31, e_ex32, e_add, e_sub, e_mul, e_quo, e_rem, e_and, e_or, e_xor, e_shl, e_shr, e_eql, e_neq, e_lss, e_leq, e_gtr, e_geq, e_beq, e_bne, e_peq1, e_peq2, e_pne1, e_pne2, e_zeq1, e_zeq2, e_zne1, e_zne2, e_feq1, e_fne1, e_feq2, e_fne2, e_seq, e_sne, e_ta1, e_ta2, Nat.zero_add, Nat.add_zero, Bool.not_true, Bool.not_false]
  refine tb_ld (j := 1) (x := I rs[i].st) h hlt (by decide) (fun _ => rfl) ?_
  try simp only [e_fd, e_nck, e_pkt, e_pkf, e_gdtt, e_gdtf, e_gdft, e_gdff, e_ift, e_iff, e_not, e_ln, e_lnT, e_cp, e_cvi, e_ex20, e_ex21, e_ex30, e_ex31, e_ex32, e_add, e_sub, e_mul, e_quo, e_rem, e_and, e_or, e_xor, e_shl, e_shr, e_eql, e_neq, e_lss, e_leq, e_gtr, e_geq, e_beq, e_bne, e_peq1, e_peq2, e_pne1, e_pne2, e_zeq1, e_zeq2, e_zne1, e_zne2, e_feq1, e_fne1, e_feq2, e_fne2, e_seq, e_sne, e_ta1, e_ta2, Nat.zero_add, Nat.add_zero, Bool.not_true, Bool.not_false]
  by_cases h1 : rs[i].st = 1
  · rw [if_pos h1] at hK
    rw [bne_f h1]
    try simp only [e_fd, e_nck, e_pkt, e_pkf, e_gdtt, e_gdtf, e_gdft, e_gdff, e_ift, e_iff, e_not, e_ln, e_lnT, e_cp, e_cvi, e_ex20, e_ex21, e_ex30, e_ex31, e_ex32, e_add, e_sub, e_mul, e_quo, e_rem, e_and, e_or, e_xor, e_shl, e_shr, e_eql, e_neq, e_lss, e_leq, e_gtr, e_geq, e_beq, e_bne, e_peq1, e_peq2, e_pne1, e_pne2, e_zeq1, e_zeq2, e_zne1, e_zne2, e_feq1, e_fne1, e_feq2, e_fne2, e_seq, e_sne, e_ta1, e_ta2, Nat.zero_add, Nat.add_zero, Bool.not_true, Bool.not_false]
    have hl1 := hT.lv _ (List.getElem_mem hlt) (by rw [h1]; rfl)
    have hs1 := (hT.rb _ (List.getElem_mem hlt)).lg _ (fst0_mem hl1)
    unfold s119_p2 s119_p2_d
    have kd : Kp Emp w (drw w) := kp_drw
    generalize drw w = w0 at kd ⊢
    have h0 := h.kp' kd
    try simp only [e_fd, e_nck, e_pkt, e_pkf, e_gdtt, e_gdtf, e_gdft, e_gdff, e_ift, e_iff, e_not, e_ln, e_lnT, e_cp, e_cvi, e_ex20, e_ex21, e_ex30, e_ex31, e_ex32, e_add, e_sub, e_mul, e_quo, e_rem, e_and, e_or, e_xor, e_shl, e_shr, e_eql, e_neq, e_lss, e_leq, e_gtr, e_geq, e_beq, e_bne, e_peq1, e_peq2, e_pne1, e_pne2, e_zeq1, e_zeq2, e_zne1, e_zne2, e_feq1, e_fne1, e_feq2, e_fne2, e_seq, e_sne, e_ta1, e_ta2, Nat.zero_add, Nat.add_zero, Bool.not_true, Bool.not_false]
    refine tb_lg h0 hlt fun lv hlv => ?_
    obtain ⟨cl, rv, r, hc, _⟩ := h0.ex
    obtain ⟨va, vt, rfl, _⟩ := hc.ex
    refine fst_r hlv hl1 (j := 1) rfl ?_
    try simp only [e_fd, e_nck, e_pkt, e_pkf, e_gdtt, e_gdtf, e_gdft, e_gdff, e_ift, e_iff, e_not, e_ln, e_lnT, e_cp, e_cvi, e_ex20, e_ex21, e_ex30, e_ex31, e_ex32, e_add, e_sub, e_mul, e_quo, e_rem, e_and, e_or, e_xor, e_shl, e_shr, e_eql, e_neq, e_lss, e_leq, e_gtr, e_geq, e_beq, e_bne, e_peq1, e_peq2, e_pne1, e_pne2, e_zeq1, e_zeq2, e_zne1, e_zne2, e_feq1, e_fne1, e_feq2, e_fne2, e_seq, e_sne, e_ta1, e_ta2, Nat.zero_add, Nat.add_zero, Bool.not_true, Bool.not_false]
    refine ld1_r (v := I C.gr) r rfl ?_
    try simp only [e_fd, e_nck, e_pkt, e_pkf, e_gdtt, e_gdtf, e_gdft, e_gdff, e_ift, e_iff, e_not, e_ln, e_lnT, e_cp, e_cvi, e_ex20, e_ex21, e_ex30, e_ex31, e_ex32, e_add, e_sub, e_mul, e_quo, e_rem, e_and, e_or, e_xor, e_shl, e_shr, e_eql, e_neq, e_lss, e_leq, e_gtr, e_geq, e_beq, e_bne, e_peq1, e_peq2, e_pne1, e_pne2, e_zeq1, e_zeq2, e_zne1, e_zne2, e_feq1, e_fne1, e_feq2, e_fne2, e_seq, e_sne, e_ta1, e_ta2, Nat.zero_add, Nat.add_zero, Bool.not_true, Bool.not_false]
    rw [wrap64_id (by omega) (by omega)]
    unfold s119_p1
    by_cases h2 : (fst0 rs[i]).s + C.gr ≤ now
    · rw [if_pos h2] at hK
      simp only [h2, decide_true, e_fd, e_nck, e_pkt, e_pkf, e_gdtt, e_gdtf, e_gdft, e_gdff, e_ift, e_iff, e_not, e_ln, e_lnT, e_cp, e_cvi, e_ex20, e_ex21, e_ex30, e_ex31, e_ex32, e_add, e_sub, e_mul, e_quo, e_rem, e_and, e_or, e_xor, e_shl, e_shr, e_eql, e_neq, e_lss, e_leq, e_gtr, e_geq, e_beq, e_bne, e_peq1, e_peq2, e_pne1, e_pne2, e_zeq1, e_zeq2, e_zne1, e_zne2, e_feq1, e_fne1, e_feq2, e_fne2, e_seq, e_sne, e_ta1, e_ta2, Nat.zero_add, Nat.add_zero, Bool.not_true, Bool.not_false]
      exact h.same hK kd
    · rw [if_neg h2] at hK
      simp only [h2, decide_false, e_fd, e_nck, e_pkt, e_pkf, e_gdtt, e_gdtf, e_gdft, e_gdff, e_ift, e_iff, e_not, e_ln, e_lnT, e_cp, e_cvi, e_ex20, e_ex21, e_ex30, e_ex31, e_ex32, e_add, e_sub, e_mul, e_quo, e_rem, e_and, e_or, e_xor, e_shl, e_shr, e_eql, e_neq, e_lss, e_leq, e_gtr, e_geq, e_beq, e_bne, e_peq1, e_peq2, e_pne1, e_pne2, e_zeq1, e_zeq2, e_zne1, e_zne2, e_feq1, e_fne1, e_feq2, e_fne2, e_seq, e_sne, e_ta1, e_ta2, Nat.zero_add, Nat.add_zero, Bool.not_true, Bool.not_false]
      refine tb_status h0 hlt fun w1 t1 hk1 hz1 => ?_
      exact hK w1 M (some b) (Ext.same h.lt (kd.none.trans hk1)) (kd.none.trans (hk1.mono fun c _ q => .inr (by rw [q]))) (fun b q => .inl q) t1
  · rw [if_neg h1] at hK
    rw [bne_t h1]
    try simp only [e_fd, e_nck, e_pkt, e_pkf, e_gdtt, e_gdtf, e_gdft, e_gdff, e_ift, e_iff, e_not, e_ln, e_lnT, e_cp, e_cvi, e_ex20, e_ex21, e_ex30, e_ex31, e_ex32, e_add, e_sub, e_mul, e_quo, e_rem, e_and, e_or, e_xor, e_shl, e_shr, e_eql, e_neq, e_lss, e_leq, e_gtr, e_geq, e_beq, e_bne, e_peq1, e_peq2, e_pne1, e_pne2, e_zeq1, e_zeq2, e_zne1, e_zne2, e_feq1, e_fne1, e_feq2, e_fne2, e_seq, e_sne, e_ta1, e_ta2, Nat.zero_add, Nat.add_zero, Bool.not_true, Bool.not_false]
    exact h.same hK (Kp.refl _ _)
theorem cancel_ok (hid : 0 ≤ id ∧ id ≤ 9223372036854775807) (h : Tb M w t rob C rs)
    (hK : TbK M w t rob C (tCancel id rs).1 (K (I (tCancel id rs).2))) : cl Tryz.prog 120 #[P t 0, I id] K w := by
  unfold tCancel at hK
  apply c120
  unfold s120_p1
  refine find2 hid h (fun hno => ?_) fun i b hi hlt hb => ?_
  · rw [if_neg hno] at hK
    try simp only [e_fd, e_nck, e_pkt, e_pkf, e_gdtt, e_gdtf, e_gdft, e_gdff, e_ift, e_iff, e_not, e_ln, e_lnT, e_cp, e_cvi, e_ex20, e_ex21, e_ex30, e_ex31, e_ex32, e_add, e_sub, e_mul, e_quo, e_rem, e_and, e_or, e_xor, e_shl, e_shr, e_eql, e_neq, e_lss, e_leq, e_gtr, e_geq, e_beq, e_bne, e_peq1, e_peq2, e_pne1, e_pne2, e_zeq1, e_zeq2, e_zne1, e_zne2, e_feq1, e_fne1, e_feq2, e_fne2, e_seq, e_sne, e_ta1, e_ta2, Nat.zero_add, Nat.add_zero, Bool.not_true, Bool.not_false]
    exact h.same hK (Kp.refl _ _)
  subst hb
  rw [if_pos ⟨by omega, by omega⟩, rget_at hi hlt, rset_at hi] at hK
  have yes : (rs[i].st = 1 ∨ rs[i].st = 2 ∨ rs[i].st = 8) → st1 (P b (i * 7 + 1)) (I 4) (fun w => K (I 0) w) w := by
    intro q
    rw [if_pos q] at hK
    refine tb_status h hlt fun w1 t1 hk1 hz1 => ?_
    exact hK w1 M (some b) (Ext.same h.lt hk1) (hk1.mono fun c _ q => .inr (by rw [q])) (fun b q => .inl q) t1
  try simp only [e_fd, e_nck, e_pkt, e_pkf, e_gdtt, e_gdtf, e_gdft, e_gdff, e_ift, e_iff, e_not, e_ln, e_lnT, e_cp, e_cvi, e_ex20, e_ex21, e_ex30, e_ex31, e_ex32, e_add, e_sub, e_mul, e_quo, e_rem, e_and, e_or, e_xor, e_shl, e_shr, e_eql, e_neq, e_lss, e_leq, e_gtr, e_geq, e_beq, e_bne, e_peq1, e_peq2, e_pne1, e_pne2, e_zeq1, e_zeq2, e_zne1, e_zne2, e_feq1, e_fne1, e_feq2, e_fne2, e_seq, e_sne, e_ta1, e_ta2, Nat.zero_add, Nat.add_zero, Bool.not_true, Bool.not_false]
  refine tb_ld (j := 1) (x := I rs[i].st) h hlt (by decide) (fun _ => rfl) ?_
  try simp only [e_fd, e_nck, e_pkt, e_pkf, e_gdtt, e_gdtf, e_gdft, e_gdff, e_ift, e_iff, e_not, e_ln, e_lnT, e_cp, e_cvi, e_ex20, e_ex21, e_ex30, e_ex31, e_ex32, e_add, e_sub, e_mul, e_quo, e_rem, e_and, e_or, e_xor, e_shl, e_shr, e_eql, e_neq, e_lss, e_leq, e_gtr, e_geq, e_beq, e_bne, e_peq1, e_peq2, e_pne1, e_pne2, e_zeq1, e_zeq2, e_zne1, e_zne2, e_feq1, e_fne1, e_feq2, e_fne2, e_seq, e_sne, e_ta1, e_ta2, Nat.zero_add, Nat.add_zero, Bool.not_true, Bool.not_false]
  by_cases h1 : rs[i].st = 1
  · rw [bne_f h1]
    try simp only [e_fd, e_nck, e_pkt, e_pkf, e_gdtt, e_gdtf, e_gdft, e_gdff, e_ift, e_iff, e_not, e_ln, e_lnT, e_cp, e_cvi, e_ex20, e_ex21, e_ex30, e_ex31, e_ex32, e_add, e_sub, e_mul, e_quo, e_rem, e_and, e_or, e_xor, e_shl, e_shr, e_eql, e_neq, e_lss, e_leq, e_gtr, e_geq, e_beq, e_bne, e_peq1, e_peq2, e_pne1, e_pne2, e_zeq1, e_zeq2, e_zne1, e_zne2, e_feq1, e_fne1, e_feq2, e_fne2, e_seq, e_sne, e_ta1, e_ta2, Nat.zero_add, Nat.add_zero, Bool.not_true, Bool.not_false]
    exact yes (.inl h1)
  rw [bne_t h1]
  try simp only [e_fd, e_nck, e_pkt, e_pkf, e_gdtt, e_gdtf, e_gdft, e_gdff, e_ift, e_iff, e_not, e_ln, e_lnT, e_cp, e_cvi, e_ex20, e_ex21, e_ex30, e_ex31, e_ex32, e_add, e_sub, e_mul, e_quo, e_rem, e_and, e_or, e_xor, e_shl, e_shr, e_eql, e_neq, e_lss, e_leq, e_gtr, e_geq, e_beq, e_bne, e_peq1, e_peq2, e_pne1, e_pne2, e_zeq1, e_zeq2, e_zne1, e_zne2, e_feq1, e_fne1, e_feq2, e_fne2, e_seq, e_sne, e_ta1, e_ta2, Nat.zero_add, Nat.add_zero, Bool.not_true, Bool.not_false]
  refine tb_ld (j := 1) (x := I rs[i].st) h hlt (by decide) (fun _ => rfl) ?_
  try simp only [e_fd, e_nck, e_pkt, e_pkf, e_gdtt, e_gdtf, e_gdft, e_gdff, e_ift, e_iff, e_not, e_ln, e_lnT, e_cp, e_cvi, e_ex20, e_ex21, e_ex30, e_ex31, e_ex32, e_add, e_sub, e_mul, e_quo, e_rem, e_and, e_or, e_xor, e_shl, e_shr, e_eql, e_neq, e_lss, e_leq, e_gtr, e_geq, e_beq, e_bne, e_peq1, e_peq2, e_pne1, e_pne2, e_zeq1, e_zeq2, e_zne1, e_zne2, e_feq1, e_fne1, e_feq2, e_fne2, e_seq, e_sne, e_ta1, e_ta2, Nat.zero_add, Nat.add_zero, Bool.not_true, Bool.not_false]
  by_cases h2 : rs[i].st = 2
  · rw [bne_f h2]
    try simp only [e_fd, e_nck, e_pkt, e_pkf, e_gdtt, e_gdtf, e_gdft, e_gdff, e_ift, e_iff, e_not, e_ln, e_lnT, e_cp, e_cvi, e_ex20, e_ex21, e_ex30, e_ex31, e_ex32, e_add, e_sub, e_mul, e_quo, e_rem, e_and, e_or, e_xor, e_shl, e_shr, e_eql, e_neq, e_lss, e_leq, e_gtr, e_geq, e_beq, e_bne, e_peq1, e_peq2, e_pne1, e_pne2, e_zeq1, e_zeq2, e_zne1, e_zne2, e_feq1, e_fne1, e_feq2, e_fne2, e_seq, e_sne, e_ta1, e_ta2, Nat.zero_add, Nat.add_zero, Bool.not_true, Bool.not_false]
    exact yes (.inr (.inl h2))
  rw [bne_t h2]
  try simp only [e_fd, e_nck, e_pkt, e_pkf, e_gdtt, e_gdtf, e_gdft, e_gdff, e_ift, e_iff, e_not, e_ln, e_lnT, e_cp, e_cvi, e_ex20, e_ex21, e_ex30, e_ex31, e_ex32, e_add, e_sub, e_mul, e_quo, e_rem, e_and, e_or, e_xor, e_shl, e_shr, e_eql, e_neq, e_lss, e_leq, e_gtr, e_geq, e_beq, e_bne, e_peq1, e_peq2, e_pne1, e_pne2, e_zeq1, e_zeq2, e_zne1, e_zne2, e_feq1, e_fne1, e_feq2, e_fne2, e_seq, e_sne, e_ta1, e_ta2, Nat.zero_add, Nat.add_zero, Bool.not_true, Bool.not_false]
  refine tb_ld (j := 1) (x := I rs[i].st) h hlt (by decide) (fun _ => rfl) ?_
  try simp only [e_fd, e_nck, e_pkt, e_pkf, e_gdtt, e_gdtf, e_gdft, e_gdff, e_ift, e_iff, e_not, e_ln, e_lnT, e_cp, e_cvi, e_ex20, e_ex21, e_ex30, e_ex31, e_ex32, e_add, e_sub, e_mul, e_quo, e_rem, e_and, e_or, e_xor, e_shl, e_shr, e_eql, e_neq, e_lss, e_leq, e_gtr, e_geq, e_beq, e_bne, e_peq1, e_peq2, e_pne1, e_pne2, e_zeq1, e_zeq2, e_zne1, e_zne2, e_feq1, e_fne1, e_feq2, e_fne2, e_seq, e_sne, e_ta1, e_ta2, Nat.zero_add, Nat.add_zero, Bool.not_true, Bool.not_false]
  by_cases h3 : rs[i].st = 8
  · rw [bne_f h3]
    try simp only [e_fd, e_nck, e_pkt, e_pkf, e_gdtt, e_gdtf, e_gdft, e_gdff, e_ift, e_iff, e_not, e_ln, e_lnT, e_cp, e_cvi, e_ex20, e_ex21, e_ex30, e_ex31, e_ex32, e_add, e_sub, e_mul, e_quo, e_rem, e_and, e_or, e_xor, e_shl, e_shr, e_eql, e_neq, e_lss, e_leq, e_gtr, e_geq, e_beq, e_bne, e_peq1, e_peq2, e_pne1, e_pne2, e_zeq1, e_zeq2, e_zne1, e_zne2, e_feq1, e_fne1, e_feq2, e_fne2, e_seq, e_sne, e_ta1, e_ta2, Nat.zero_add, Nat.add_zero, Bool.not_true, Bool.not_false]
    exact yes (.inr (.inr h3))
  rw [bne_t h3]
  try simp only [e_fd, e_nck, e_pkt, e_pkf, e_gdtt, e_gdtf, e_gdft, e_gdff, e_ift, e_iff, e_not, e_ln, e_lnT, e_cp, e_cvi, e_ex20, e_ex21, e_ex30, e_ex31, e_ex32, e_add, e_sub, e_mul, e_quo, e_rem, e_and, e_or, e_xor, e_shl, e_shr, e_eql, e_neq, e_lss, e_leq, e_gtr, e_geq, e_beq, e_bne, e_peq1, e_peq2, e_pne1, e_pne2, e_zeq1, e_zeq2, e_zne1, e_zne2, e_feq1, e_fne1, e_feq2, e_fne2, e_seq, e_sne, e_ta1, e_ta2, Nat.zero_add, Nat.add_zero, Bool.not_true, Bool.not_false]
  rw [if_neg (by omega)] at hK
  exact h.same hK (Kp.refl _ _)
theorem arrive_ok {st : Int} (hst : live st = true) (hT : TI C rs) (hid : 0 ≤ id ∧ id ≤ 9223372036854775807) (h : Tb M w t rob C rs)
    (hK : TbK M w t rob C (tArrive now id st rs).1 (K (I (tArrive now id st rs).2))) : cl Tryz.prog 140 #[P t 0, I now, I id, I st] K w := by
  unfold tArrive at hK
  apply c140
  unfold s140_p1
  refine find2 hid h (fun hno => ?_) fun i b hi hlt hb => ?_
  · rw [if_neg hno] at hK
    try simp only [e_fd, e_nck, e_pkt, e_pkf, e_gdtt, e_gdtf, e_gdft, e_gdff, e_ift, e_iff, e_not, e_ln, e_lnT, e_cp, e_cvi, e_ex20, e_ex21, e_ex30, e_ex31, e_ex32, e_add, e_sub, e_mul, e_quo, e_rem, e_and, e_or, e_xor, e_shl, e_shr, e_eql, e_neq, e_lss, e_leq, e_gtr, e_geq, e_beq, e_bne, e_peq1, e_peq2, e_pne1, e_pne2, e_zeq1, e_zeq2, e_zne1, e_zne2, e_feq1, e_fne1, e_feq2, e_fne2, e_seq, e_sne, e_ta1, e_ta2, Nat.zero_add, Nat.add_zero, Bool.not_true, Bool.not_false]
    exact h.same hK (Kp.refl _ _)
  subst hb
  rw [if_pos ⟨by omega, by omega⟩, rget_at hi hlt, rset_at hi] at hK
  try simp only [e_fd, e_nck, e_pkt, e_pkf, e_gdtt, e_gdtf, e_gdft, e_gdff, e_ift, e_iff, e_not, e_ln, e_lnT, e_cp, e_cvi, e_ex20, e_ex21, e_ex30, e_ex31, e_ex32, e_add, e_sub, e_mul, e_quo, e_rem, e_and, e_or, e_xor, e_shl, e_shr, e_eql, e_neq, e_lss, e_leq, e_gtr, e_geq, e_beq, e_bne, e_peq1, e_peq2, e_pne1, e_pne2, e_zeq1, e_zeq2, e_zne1, e_zne2, e_feq1, e_fne1, e_feq2, e_fne2, e_seq, e_sne, e_ta1, e_ta2, Nat.zero_add, Nat.add_zero, Bool.not_true, Bool.not_false]
  refine tb_ld (j := 1) (x := I rs[i].st) h hlt (by decide) (fun _ => rfl) ?_
  try simp only [e_fd, e_nck, e_pkt, e_pkf, e_gdtt, e_gdtf, e_gdft, e_gdff, e_ift, e_iff, e_not, e_ln, e_lnT, e_cp, e_cvi, e_ex20, e_ex21, e_ex30, e_ex31, e_ex32, e_add, e_sub, e_mul, e_quo, e_rem, e_and, e_or, e_xor, e_shl, e_shr, e_eql, e_neq, e_lss, e_leq, e_gtr, e_geq, e_beq, e_bne, e_peq1, e_peq2, e_pne1, e_pne2, e_zeq1, e_zeq2, e_zne1, e_zne2, e_feq1, e_fne1, e_feq2, e_fne2, e_seq, e_sne, e_ta1, e_ta2, Nat.zero_add, Nat.add_zero, Bool.not_true, Bool.not_false]
  by_cases h1 : rs[i].st = st
  · rw [if_pos h1] at hK
    rw [bne_f h1]
    try simp only [e_fd, e_nck, e_pkt, e_pkf, e_gdtt, e_gdtf, e_gdft, e_gdff, e_ift, e_iff, e_not, e_ln, e_lnT, e_cp, e_cvi, e_ex20, e_ex21, e_ex30, e_ex31, e_ex32, e_add, e_sub, e_mul, e_quo, e_rem, e_and, e_or, e_xor, e_shl, e_shr, e_eql, e_neq, e_lss, e_leq, e_gtr, e_geq, e_beq, e_bne, e_peq1, e_peq2, e_pne1, e_pne2, e_zeq1, e_zeq2, e_zne1, e_zne2, e_feq1, e_fne1, e_feq2, e_fne2, e_seq, e_sne, e_ta1, e_ta2, Nat.zero_add, Nat.add_zero, Bool.not_true, Bool.not_false]
    have hl1 := hT.lv _ (List.getElem_mem hlt) (by rw [h1]; exact hst)
    refine tb_lg h hlt fun lv hlv => ?_
    refine fst_r hlv hl1 (j := 1) rfl ?_
    try simp only [e_fd, e_nck, e_pkt, e_pkf, e_gdtt, e_gdtf, e_gdft, e_gdff, e_ift, e_iff, e_not, e_ln, e_lnT, e_cp, e_cvi, e_ex20, e_ex21, e_ex30, e_ex31, e_ex32, e_add, e_sub, e_mul, e_quo, e_rem, e_and, e_or, e_xor, e_shl, e_shr, e_eql, e_neq, e_lss, e_leq, e_gtr, e_geq, e_beq, e_bne, e_peq1, e_peq2, e_pne1, e_pne2, e_zeq1, e_zeq2, e_zne1, e_zne2, e_feq1, e_fne1, e_feq2, e_fne2, e_seq, e_sne, e_ta1, e_ta2, Nat.zero_add, Nat.add_zero, Bool.not_true, Bool.not_false]
    by_cases h2 : now < (fst0 rs[i]).s
    · rw [if_pos h2] at hK
      simp only [h2, decide_true, e_fd, e_nck, e_pkt, e_pkf, e_gdtt, e_gdtf, e_gdft, e_gdff, e_ift, e_iff, e_not, e_ln, e_lnT, e_cp, e_cvi, e_ex20, e_ex21, e_ex30, e_ex31, e_ex32, e_add, e_sub, e_mul, e_quo, e_rem, e_and, e_or, e_xor, e_shl, e_shr, e_eql, e_neq, e_lss, e_leq, e_gtr, e_geq, e_beq, e_bne, e_peq1, e_peq2, e_pne1, e_pne2, e_zeq1, e_zeq2, e_zne1, e_zne2, e_feq1, e_fne1, e_feq2, e_fne2, e_seq, e_sne, e_ta1, e_ta2, Nat.zero_add, Nat.add_zero, Bool.not_true, Bool.not_false]
      exact h.same hK (Kp.refl _ _)
    · rw [if_neg h2] at hK
      simp only [h2, decide_false, e_fd, e_nck, e_pkt, e_pkf, e_gdtt, e_gdtf, e_gdft, e_gdff, e_ift, e_iff, e_not, e_ln, e_lnT, e_cp, e_cvi, e_ex20, e_ex21, e_ex30, e_ex31, e_ex32, e_add, e_sub, e_mul, e_quo, e_rem, e_and, e_or, e_xor, e_shl, e_shr, e_eql, e_neq, e_lss, e_leq, e_gtr, e_geq, e_beq, e_bne, e_peq1, e_peq2, e_pne1, e_pne2, e_zeq1, e_zeq2, e_zne1, e_zne2, e_feq1, e_fne1, e_feq2, e_fne2, e_seq, e_sne, e_ta1, e_ta2, Nat.zero_add, Nat.add_zero, Bool.not_true, Bool.not_false]
      refine tb_status h hlt fun w1 t1 hk1 hz1 => ?_
      exact hK w1 M (some b) (Ext.same h.lt hk1) (hk1.mono fun c _ q => .inr (by rw [q])) (fun b q => .inl q) t1
  · rw [if_neg h1] at hK
    rw [bne_t h1]
    try simp only [e_fd, e_nck, e_pkt, e_pkf, e_gdtt, e_gdtf, e_gdft, e_gdff, e_ift, e_iff, e_not, e_ln, e_lnT, e_cp, e_cvi, e_ex20, e_ex21, e_ex30, e_ex31, e_ex32, e_add, e_sub, e_mul, e_quo, e_rem, e_and, e_or, e_xor, e_shl, e_shr, e_eql, e_neq, e_lss, e_leq, e_gtr, e_geq, e_beq, e_bne, e_peq1, e_peq2, e_pne1, e_pne2, e_zeq1, e_zeq2, e_zne1, e_zne2, e_feq1, e_fne1, e_feq2, e_fne2, e_seq, e_sne, e_ta1, e_ta2, Nat.zero_add, Nat.add_zero, Bool.not_true, Bool.not_false]
    exact h.same hK (Kp.refl _ _)
theorem checkIn_ok (hT : TI C rs) (hid : 0 ≤ id ∧ id ≤ 9223372036854775807) (h : Tb M w t rob C rs) (hK : TbK M w t rob C (tArrive now id 2 rs).1 (K (I (tArrive now id 2 rs).2))) : cl Tryz.prog 121 #[P t 0, I now, I id] K w := by
  apply c121
  unfold s121_p1
  exact arrive_ok rfl hT hid h hK
theorem redeem_ok (hT : TI C rs) (hid : 0 ≤ id ∧ id ≤ 9223372036854775807) (h : Tb M w t rob C rs) (hK : TbK M w t rob C (tArrive now id 8 rs).1 (K (I (tArrive now id 8 rs).2))) : cl Tryz.prog 125 #[P t 0, I now, I id] K w := by
  apply c125
  unfold s125_p1
  exact arrive_ok rfl hT hid h hK
theorem withdraw_ok (hid : 0 ≤ id ∧ id ≤ 9223372036854775807) (h : Tb M w t rob C rs)
    (hK : TbK M w t rob C (tWithdraw id rs).1 (K (I (tWithdraw id rs).2))) : cl Tryz.prog 143 #[P t 0, I id] K w := by
  unfold tWithdraw at hK
  apply c143
  unfold s143_p1
  refine find2 hid h (fun hno => ?_) fun i b hi hlt hb => ?_
  · rw [if_neg hno] at hK
    try simp only [e_fd, e_nck, e_pkt, e_pkf, e_gdtt, e_gdtf, e_gdft, e_gdff, e_ift, e_iff, e_not, e_ln, e_lnT, e_cp, e_cvi, e_ex20, e_ex21, e_ex30, e_ex31, e_ex32, e_add, e_sub, e_mul, e_quo, e_rem, e_and, e_or, e_xor, e_shl, e_shr, e_eql, e_neq, e_lss, e_leq, e_gtr, e_geq, e_beq, e_bne, e_peq1, e_peq2, e_pne1, e_pne2, e_zeq1, e_zeq2, e_zne1, e_zne2, e_feq1, e_fne1, e_feq2, e_fne2, e_seq, e_sne, e_ta1, e_ta2, Nat.zero_add, Nat.add_zero, Bool.not_true, Bool.not_false]
    exact h.same hK (Kp.refl _ _)
  subst hb
  rw [if_pos ⟨by omega, by omega⟩, rget_at hi hlt, rset_at hi] at hK
  try simp only [e_fd, e_nck, e_pkt, e_pkf, e_gdtt, e_gdtf, e_gdft, e_gdff, e_ift, e_iff, e_not, e_ln, e_lnT, e_cp, e_cvi, e_ex20, e_ex21, e_ex30, e_ex31, e_ex32, e_add, e_sub, e_mul, e_quo, e_rem, e_and, e_or, e_xor, e_shl, e_shr, e_eql, e_neq, e_lss, e_leq, e_gtr, e_geq, e_beq, e_bne, e_peq1, e_peq2, e_pne1, e_pne2, e_zeq1, e_zeq2, e_zne1, e_zne2, e_feq1, e_fne1, e_feq2, e_fne2, e_seq, e_sne, e_ta1, e_ta2, Nat.zero_add, Nat.add_zero, Bool.not_true, Bool.not_false]
  refine tb_ld (j := 1) (x := I rs[i].st) h hlt (by decide) (fun _ => rfl) ?_
  try simp only [e_fd, e_nck, e_pkt, e_pkf, e_gdtt, e_gdtf, e_gdft, e_gdff, e_ift, e_iff, e_not, e_ln, e_lnT, e_cp, e_cvi, e_ex20, e_ex21, e_ex30, e_ex31, e_ex32, e_add, e_sub, e_mul, e_quo, e_rem, e_and, e_or, e_xor, e_shl, e_shr, e_eql, e_neq, e_lss, e_leq, e_gtr, e_geq, e_beq, e_bne, e_peq1, e_peq2, e_pne1, e_pne2, e_zeq1, e_zeq2, e_zne1, e_zne2, e_feq1, e_fne1, e_feq2, e_fne2, e_seq, e_sne, e_ta1, e_ta2, Nat.zero_add, Nat.add_zero, Bool.not_true, Bool.not_false]
  by_cases h1 : rs[i].st = 7
  · rw [if_pos h1] at hK
    rw [bne_f h1]
    try simp only [e_fd, e_nck, e_pkt, e_pkf, e_gdtt, e_gdtf, e_gdft, e_gdff, e_ift, e_iff, e_not, e_ln, e_lnT, e_cp, e_cvi, e_ex20, e_ex21, e_ex30, e_ex31, e_ex32, e_add, e_sub, e_mul, e_quo, e_rem, e_and, e_or, e_xor, e_shl, e_shr, e_eql, e_neq, e_lss, e_leq, e_gtr, e_geq, e_beq, e_bne, e_peq1, e_peq2, e_pne1, e_pne2, e_zeq1, e_zeq2, e_zne1, e_zne2, e_feq1, e_fne1, e_feq2, e_fne2, e_seq, e_sne, e_ta1, e_ta2, Nat.zero_add, Nat.add_zero, Bool.not_true, Bool.not_false]
    refine tb_status h hlt fun w1 t1 hk1 hz1 => ?_
    exact hK w1 M (some b) (Ext.same h.lt hk1) (hk1.mono fun c _ q => .inr (by rw [q])) (fun b q => .inl q) t1
  · rw [if_neg h1] at hK
    rw [bne_t h1]
    try simp only [e_fd, e_nck, e_pkt, e_pkf, e_gdtt, e_gdtf, e_gdft, e_gdff, e_ift, e_iff, e_not, e_ln, e_lnT, e_cp, e_cvi, e_ex20, e_ex21, e_ex30, e_ex31, e_ex32, e_add, e_sub, e_mul, e_quo, e_rem, e_and, e_or, e_xor, e_shl, e_shr, e_eql, e_neq, e_lss, e_leq, e_gtr, e_geq, e_beq, e_bne, e_peq1, e_peq2, e_pne1, e_pne2, e_zeq1, e_zeq2, e_zne1, e_zne2, e_feq1, e_fne1, e_feq2, e_fne2, e_seq, e_sne, e_ta1, e_ta2, Nat.zero_add, Nat.add_zero, Bool.not_true, Bool.not_false]
    exact h.same hK (Kp.refl _ _)
end
end Go.Proofs.Qxb6500896aGreatDoor
