import Derived.Test.Qxb6500896aGreatK34
namespace Go.Proofs.Qxb6500896aGreat
open Go.Sh Go.RowKit
set_option linter.unusedVariables false
set_option linter.unusedSimpArgs false

def isE (now : Int) (r : Rec) : Bool := decide (r.st = 1) && decide (r.ex ≤ now)
def isS (C : Cfg) (now : Int) (r : Rec) : Bool := decide (r.st = 2) && decide ((fst0 r).s + C.gr ≤ now)
def isL (C : Cfg) (now : Int) (r : Rec) : Bool := decide (r.st = 8) && decide ((fst0 r).s + C.rt ≤ now)
def swR (C : Cfg) (now : Int) (r : Rec) : Rec := if isE now r then { r with st := 6 } else if isS C now r then { r with st := 5 } else if isL C now r then { r with st := 9 } else r
def tSweep (C : Cfg) (now : Int) (rs : List Rec) : List Rec := rs.map (swR C now)
def tIssue (id slot : Int) (rs : List Rec) : List Rec × Int :=
  if has rs id then (if (rget rs id).st = 7 then (rset rs id { rget rs id with st := 8, legs := [⟨(rget rs id).ln - 1, slot⟩] }, 0) else (rs, 8)) else (rs, 2)
/-- the first slot that takes the party -/
def offF (C : Cfg) (rs : List Rec) (r : Rec) : Nat → Int → Option Int
  | 0, _ => none
  | n + 1, s => if fits C rs r.cl r.sz [⟨r.ln - 1, s⟩] 0 = 0 then some s else offF C rs r n (s + 1)
def tOffer (C : Cfg) (rs : List Rec) (id fr to : Int) : Option Int := if has rs id ∧ (rget rs id).st = 7 then offF C rs (rget rs id) (to + 1 - fr).toNat fr else none
theorem countP_take {α : Type} {p : α → Bool} {rs : List α} {i : Nat} (h : i < rs.length) : (rs.take (i + 1)).countP p = (rs.take i).countP p + (if p rs[i] then 1 else 0) := by
  rw [List.take_succ_eq_append_getElem h, List.countP_append, List.countP_singleton]
section
variable {F G M M' S : Nat → Prop} {w w' w1 : World} {v lv rv : Value} {t b i : Nat} {rob : Option Nat} {C : Cfg} {rs : List Rec} {K : Value → World → Prop} {ls : List Leg} {now id cls sz attr slot : Int} {r : Rec}
theorem tb_ix {i : Nat} (h : Tb M w t rob C rs) (hi : i < rs.length) (hK : ∀ b, rob = some b → K (P b (i * 7)) w) : ld1 (P t 14) (fun v w => ixs 7 v (I (i : Nat)) K w) w := by
  obtain ⟨cl, rv, r0, hc, its, e1, e2, e3, e4⟩ := h.ex
  have hcl := hc.len
  have hil : its.length = rs.length := by rw [← e1, List.length_map]
  refine ld1_r (v := rv) r0 (by rw [List.getElem?_append_right (by omega), hcl]; rfl) ?_
  cases rob with
  | none => obtain ⟨_, rfl⟩ := e2; simp at hil; omega
  | some b => exact sl_ixp e2 (by omega) (hK b rfl)
theorem sweep_ok (cv : CV C) (hT : TI C rs) (h : Tb M w t rob C rs) (hn : 0 ≤ now ∧ now ≤ 1099511627776)
    (hK : TbK M w t rob C (tSweep C now rs) (K (.tuple #[I (rs.countP (isE now) : Nat), I (rs.countP (isS C now) : Nat), I (rs.countP (isL C now) : Nat)]))) : cl Tryz.prog 237 #[P t 0, I now] K w := by
  have gr := cv.gr
  have rt := cv.rt
  have hrl := h.len
  apply c237
  unfold s237_p14
  obtain ⟨cl0, rv0, r0, hc0, hrr⟩ := h.ex
  have hcl := hc0.len
  try simp only [e_fd, e_nck, e_pkt, e_pkf, e_gdtt, e_gdtf, e_gdft, e_gdff, e_ift, e_iff, e_not, e_ln, e_lnT, e_cp, e_cvi, e_ex20, e_ex21, e_ex30, e_ex31, e_ex32, e_add, e_sub, e_mul, e_quo, e_rem, e_and, e_or, e_xor, e_shl, e_shr, e_eql, e_neq, e_lss, e_leq, e_gtr, e_geq, e_beq, e_bne, e_peq1, e_peq2, e_pne1, e_pne2, e_zeq1, e_zeq2, e_zne1, e_zne2, e_feq1, e_fne1, e_feq2, e_fne2, e_seq, e_sne, e_ta1, e_ta2, Nat.zero_add, Nat.add_zero, Bool.not_true, Bool.not_false]
  refine ld1_r (v := rv0) r0 (by rw [List.getElem?_append_right (by omega), hcl]; rfl) ?_
  refine hrr.ln ?_
  unfold s237_p13
  refine loop_n rs.length (fun i l w' => l = [P t 0, I now, I ((rs.take i).countP (isE now) : Nat), I ((rs.take i).countP (isS C now) : Nat), I ((rs.take i).countP (isL C now) : Nat), I (rs.length : Nat), I (i : Nat)] ∧ Kp (OwnT t rob) w w' ∧ Tb M w' t rob C ((rs.take i).map (swR C now) ++ rs.drop i)) ⟨rfl, Kp.refl _ _, by simpa using h⟩ ?_ ?_
  · rintro i l w2 hi ⟨rfl, k2, tb2⟩ B hB
    have hlen2 : ((rs.take i).map (swR C now) ++ rs.drop i).length = rs.length := by rw [List.length_append, List.length_map, List.length_take, List.length_drop]; omega
    have hi2 : i < ((rs.take i).map (swR C now) ++ rs.drop i).length := by omega
    have hg : ((rs.take i).map (swR C now) ++ rs.drop i)[i]'hi2 = rs[i] := by
      rw [List.getElem_append_right (by rw [List.length_map, List.length_take]; omega)]
      simp only [List.length_map, List.length_take, List.getElem_drop]
      congr 1
      omega
    have hset : ∀ r', ((rs.take i).map (swR C now) ++ rs.drop i).set i r' = (rs.take i).map (swR C now) ++ r' :: rs.drop (i + 1) := fun r' => by
      rw [List.set_append_right _ _ (by rw [List.length_map, List.length_take]; omega), List.length_map, List.length_take, show i - min i rs.length = 0 by omega, List.drop_eq_getElem_cons hi, List.set_cons_zero]
    have hnext : ∀ r', swR C now rs[i] = r' → (rs.take i).map (swR C now) ++ r' :: rs.drop (i + 1) = (rs.take (i + 1)).map (swR C now) ++ rs.drop (i + 1) := fun r' e => by
      rw [List.take_succ_eq_append_getElem hi, List.map_append, List.append_assoc, List.map_singleton, e]; rfl
    have cE := countP_take (p := isE now) hi
    have cS := countP_take (p := isS C now) hi
    have cL := countP_take (p := isL C now) hi
    have lE := List.countP_le_length (p := isE now) (l := rs.take (i + 1))
    have lS := List.countP_le_length (p := isS C now) (l := rs.take (i + 1))
    have lL := List.countP_le_length (p := isL C now) (l := rs.take (i + 1))
    rw [List.length_take] at lE lS lL
    have hmem := List.getElem_mem hi
    have rb := hT.rb _ hmem
    rw [s237_p13_Fe]
    unfold s237_p12
    try simp only [e_fd, e_nck, e_pkt, e_pkf, e_gdtt, e_gdtf, e_gdft, e_gdff, e_ift, e_iff, e_not, e_ln, e_lnT, e_cp, e_cvi, e_ex20, e_ex21, e_ex30, e_ex31, e_ex32, e_add, e_sub, e_mul, e_quo, e_rem, e_and, e_or, e_xor, e_shl, e_shr, e_eql, e_neq, e_lss, e_leq, e_gtr, e_geq, e_beq, e_bne, e_peq1, e_peq2, e_pne1, e_pne2, e_zeq1, e_zeq2, e_zne1, e_zne2, e_feq1, e_fne1, e_feq2, e_fne2, e_seq, e_sne, e_ta1, e_ta2, Nat.zero_add, Nat.add_zero, Bool.not_true, Bool.not_false]
    rw [dlt hi]
    try simp only [e_fd, e_nck, e_pkt, e_pkf, e_gdtt, e_gdtf, e_gdft, e_gdff, e_ift, e_iff, e_not, e_ln, e_lnT, e_cp, e_cvi, e_ex20, e_ex21, e_ex30, e_ex31, e_ex32, e_add, e_sub, e_mul, e_quo, e_rem, e_and, e_or, e_xor, e_shl, e_shr, e_eql, e_neq, e_lss, e_leq, e_gtr, e_geq, e_beq, e_bne, e_peq1, e_peq2, e_pne1, e_pne2, e_zeq1, e_zeq2, e_zne1, e_zne2, e_feq1, e_fne1, e_feq2, e_fne2, e_seq, e_sne, e_ta1, e_ta2, Nat.zero_add, Nat.add_zero, Bool.not_true, Bool.not_false]
    unfold s237_p11
    try simp only [e_fd, e_nck, e_pkt, e_pkf, e_gdtt, e_gdtf, e_gdft, e_gdff, e_ift, e_iff, e_not, e_ln, e_lnT, e_cp, e_cvi, e_ex20, e_ex21, e_ex30, e_ex31, e_ex32, e_add, e_sub, e_mul, e_quo, e_rem, e_and, e_or, e_xor, e_shl, e_shr, e_eql, e_neq, e_lss, e_leq, e_gtr, e_geq, e_beq, e_bne, e_peq1, e_peq2, e_pne1, e_pne2, e_zeq1, e_zeq2, e_zne1, e_zne2, e_feq1, e_fne1, e_feq2, e_fne2, e_seq, e_sne, e_ta1, e_ta2, Nat.zero_add, Nat.add_zero, Bool.not_true, Bool.not_false]
    refine tb_ix tb2 hi2 fun b hb => ?_
    subst hb
    -- the step on
    have go : ∀ w3 rs3 (a b' c : Nat), Kp (OwnT t (some b)) w2 w3 → Tb M w3 t (some b) C rs3 → rs3 = (rs.take (i + 1)).map (swR C now) ++ rs.drop (i + 1) → a = (rs.take (i + 1)).countP (isE now) → b' = (rs.take (i + 1)).countP (isS C now) → c = (rs.take (i + 1)).countP (isL C now) →
        s237_p2 K B (P t 0) (I now) (I (a : Nat)) (I (b' : Nat)) (I (c : Nat)) (I (rs.length : Nat)) (I (i : Nat)) w3 := by
      intro w3 rs3 a b' c k3 tb3 e1 e2 e3 e4
      subst e1 e2 e3 e4
      unfold s237_p2
      try simp only [e_fd, e_nck, e_pkt, e_pkf, e_gdtt, e_gdtf, e_gdft, e_gdff, e_ift, e_iff, e_not, e_ln, e_lnT, e_cp, e_cvi, e_ex20, e_ex21, e_ex30, e_ex31, e_ex32, e_add, e_sub, e_mul, e_quo, e_rem, e_and, e_or, e_xor, e_shl, e_shr, e_eql, e_neq, e_lss, e_leq, e_gtr, e_geq, e_beq, e_bne, e_peq1, e_peq2, e_pne1, e_pne2, e_zeq1, e_zeq2, e_zne1, e_zne2, e_feq1, e_fne1, e_feq2, e_fne2, e_seq, e_sne, e_ta1, e_ta2, Nat.zero_add, Nat.add_zero, Bool.not_true, Bool.not_false]
      rw [inc i (by omega)]
      exact hB _ w3 ⟨rfl, k2.trans k3, tb3⟩
    have ku : ∀ {w3 w4 : World}, Kp (fun c => c = b) w3 w4 → Kp (OwnT t (some b)) w3 w4 := fun k => k.mono fun c _ q => .inr (by rw [q])
    unfold s237_p10
    try simp only [e_fd, e_nck, e_pkt, e_pkf, e_gdtt, e_gdtf, e_gdft, e_gdff, e_ift, e_iff, e_not, e_ln, e_lnT, e_cp, e_cvi, e_ex20, e_ex21, e_ex30, e_ex31, e_ex32, e_add, e_sub, e_mul, e_quo, e_rem, e_and, e_or, e_xor, e_shl, e_shr, e_eql, e_neq, e_lss, e_leq, e_gtr, e_geq, e_beq, e_bne, e_peq1, e_peq2, e_pne1, e_pne2, e_zeq1, e_zeq2, e_zne1, e_zne2, e_feq1, e_fne1, e_feq2, e_fne2, e_seq, e_sne, e_ta1, e_ta2, Nat.zero_add, Nat.add_zero, Bool.not_true, Bool.not_false]
    refine tb_ld (j := 1) (x := I rs[i].st) tb2 hi2 (by decide) (fun _ => by rw [hg]; rfl) ?_
    simp only [eqi, e_fd, e_nck, e_pkt, e_pkf, e_gdtt, e_gdtf, e_gdft, e_gdff, e_ift, e_iff, e_not, e_ln, e_lnT, e_cp, e_cvi, e_ex20, e_ex21, e_ex30, e_ex31, e_ex32, e_add, e_sub, e_mul, e_quo, e_rem, e_and, e_or, e_xor, e_shl, e_shr, e_eql, e_neq, e_lss, e_leq, e_gtr, e_geq, e_beq, e_bne, e_peq1, e_peq2, e_pne1, e_pne2, e_zeq1, e_zeq2, e_zne1, e_zne2, e_feq1, e_fne1, e_feq2, e_fne2, e_seq, e_sne, e_ta1, e_ta2, Nat.zero_add, Nat.add_zero, Bool.not_true, Bool.not_false]
    have p8 : isE now rs[i] = false → s237_p8 K B (P t 0) (I now) (I ((rs.take i).countP (isE now) : Nat)) (I ((rs.take i).countP (isS C now) : Nat)) (I ((rs.take i).countP (isL C now) : Nat)) (P b (i * 7)) (I (rs.length : Nat)) (I (i : Nat)) w2 := by
      intro hE
      rw [hE, if_neg (by simp)] at cE
      have p6 : isS C now rs[i] = false → ∀ w3, Kp Emp w2 w3 → s237_p6 K B (P t 0) (I now) (I ((rs.take i).countP (isE now) : Nat)) (I ((rs.take i).countP (isS C now) : Nat)) (I ((rs.take i).countP (isL C now) : Nat)) (P b (i * 7)) (I (rs.length : Nat)) (I (i : Nat)) w3 := by
        intro hS w3 k3
        rw [hS, if_neg (by simp)] at cS
        unfold s237_p6 s237_p6_d
        have kd : Kp Emp w3 (drw w3) := kp_drw
        generalize drw w3 = w4 at kd ⊢
        have k4 := k3.trans kd
        have tb4 := tb2.kp' k4
        have no : isL C now rs[i] = false → s237_p5 K B (P t 0) (I now) (I ((rs.take i).countP (isE now) : Nat)) (I ((rs.take i).countP (isS C now) : Nat)) (I ((rs.take i).countP (isL C now) : Nat)) (P b (i * 7)) (I (rs.length : Nat)) (I (i : Nat)) (.bool false) w4 := by
          intro hL
          rw [hL, if_neg (by simp)] at cL
          unfold s237_p5
          try simp only [e_fd, e_nck, e_pkt, e_pkf, e_gdtt, e_gdtf, e_gdft, e_gdff, e_ift, e_iff, e_not, e_ln, e_lnT, e_cp, e_cvi, e_ex20, e_ex21, e_ex30, e_ex31, e_ex32, e_add, e_sub, e_mul, e_quo, e_rem, e_and, e_or, e_xor, e_shl, e_shr, e_eql, e_neq, e_lss, e_leq, e_gtr, e_geq, e_beq, e_bne, e_peq1, e_peq2, e_pne1, e_pne2, e_zeq1, e_zeq2, e_zne1, e_zne2, e_feq1, e_fne1, e_feq2, e_fne2, e_seq, e_sne, e_ta1, e_ta2, Nat.zero_add, Nat.add_zero, Bool.not_true, Bool.not_false]
          refine go w4 _ _ _ _ k4.none tb4 ?_ (by omega) (by omega) (by omega)
          rw [← hnext rs[i] (by unfold swR; rw [hE, hS, hL]; rfl), List.drop_eq_getElem_cons hi]
        try simp only [e_fd, e_nck, e_pkt, e_pkf, e_gdtt, e_gdtf, e_gdft, e_gdff, e_ift, e_iff, e_not, e_ln, e_lnT, e_cp, e_cvi, e_ex20, e_ex21, e_ex30, e_ex31, e_ex32, e_add, e_sub, e_mul, e_quo, e_rem, e_and, e_or, e_xor, e_shl, e_shr, e_eql, e_neq, e_lss, e_leq, e_gtr, e_geq, e_beq, e_bne, e_peq1, e_peq2, e_pne1, e_pne2, e_zeq1, e_zeq2, e_zne1, e_zne2, e_feq1, e_fne1, e_feq2, e_fne2, e_seq, e_sne, e_ta1, e_ta2, Nat.zero_add, Nat.add_zero, Bool.not_true, Bool.not_false]
        refine tb_ld (j := 1) (x := I rs[i].st) tb4 hi2 (by decide) (fun _ => by rw [hg]; rfl) ?_
        simp only [eqi, e_fd, e_nck, e_pkt, e_pkf, e_gdtt, e_gdtf, e_gdft, e_gdff, e_ift, e_iff, e_not, e_ln, e_lnT, e_cp, e_cvi, e_ex20, e_ex21, e_ex30, e_ex31, e_ex32, e_add, e_sub, e_mul, e_quo, e_rem, e_and, e_or, e_xor, e_shl, e_shr, e_eql, e_neq, e_lss, e_leq, e_gtr, e_geq, e_beq, e_bne, e_peq1, e_peq2, e_pne1, e_pne2, e_zeq1, e_zeq2, e_zne1, e_zne2, e_feq1, e_fne1, e_feq2, e_fne2, e_seq, e_sne, e_ta1, e_ta2, Nat.zero_add, Nat.add_zero, Bool.not_true, Bool.not_false]
        by_cases h8 : rs[i].st = 8
        · have hl1 := hT.lv _ hmem (by rw [h8]; rfl)
          have hs1 := rb.lg _ (fst0_mem hl1)
          rw [decide_eq_true h8]
          try simp only [e_fd, e_nck, e_pkt, e_pkf, e_gdtt, e_gdtf, e_gdft, e_gdff, e_ift, e_iff, e_not, e_ln, e_lnT, e_cp, e_cvi, e_ex20, e_ex21, e_ex30, e_ex31, e_ex32, e_add, e_sub, e_mul, e_quo, e_rem, e_and, e_or, e_xor, e_shl, e_shr, e_eql, e_neq, e_lss, e_leq, e_gtr, e_geq, e_beq, e_bne, e_peq1, e_peq2, e_pne1, e_pne2, e_zeq1, e_zeq2, e_zne1, e_zne2, e_feq1, e_fne1, e_feq2, e_fne2, e_seq, e_sne, e_ta1, e_ta2, Nat.zero_add, Nat.add_zero, Bool.not_true, Bool.not_false]
          refine tb_lg tb4 hi2 fun lv hlv => ?_
          rw [hg] at hlv
          try simp only [e_fd, e_nck, e_pkt, e_pkf, e_gdtt, e_gdtf, e_gdft, e_gdff, e_ift, e_iff, e_not, e_ln, e_lnT, e_cp, e_cvi, e_ex20, e_ex21, e_ex30, e_ex31, e_ex32, e_add, e_sub, e_mul, e_quo, e_rem, e_and, e_or, e_xor, e_shl, e_shr, e_eql, e_neq, e_lss, e_leq, e_gtr, e_geq, e_beq, e_bne, e_peq1, e_peq2, e_pne1, e_pne2, e_zeq1, e_zeq2, e_zne1, e_zne2, e_feq1, e_fne1, e_feq2, e_fne2, e_seq, e_sne, e_ta1, e_ta2, Nat.zero_add, Nat.add_zero, Bool.not_true, Bool.not_false]
          refine hlv.ix (i := 0) (by omega) fun bb o _ hcl => ?_
          try simp only [e_fd, e_nck, e_pkt, e_pkf, e_gdtt, e_gdtf, e_gdft, e_gdff, e_ift, e_iff, e_not, e_ln, e_lnT, e_cp, e_cvi, e_ex20, e_ex21, e_ex30, e_ex31, e_ex32, e_add, e_sub, e_mul, e_quo, e_rem, e_and, e_or, e_xor, e_shl, e_shr, e_eql, e_neq, e_lss, e_leq, e_gtr, e_geq, e_beq, e_bne, e_peq1, e_peq2, e_pne1, e_pne2, e_zeq1, e_zeq2, e_zne1, e_zne2, e_feq1, e_fne1, e_feq2, e_fne2, e_seq, e_sne, e_ta1, e_ta2, Nat.zero_add, Nat.add_zero, Bool.not_true, Bool.not_false]
          refine hcl.ld1 (j := 1) rfl ?_
          obtain ⟨cl, rv, r, hcg, _⟩ := tb4.ex
          obtain ⟨va, vt, rfl, _⟩ := hcg.ex
          try simp only [e_fd, e_nck, e_pkt, e_pkf, e_gdtt, e_gdtf, e_gdft, e_gdff, e_ift, e_iff, e_not, e_ln, e_lnT, e_cp, e_cvi, e_ex20, e_ex21, e_ex30, e_ex31, e_ex32, e_add, e_sub, e_mul, e_quo, e_rem, e_and, e_or, e_xor, e_shl, e_shr, e_eql, e_neq, e_lss, e_leq, e_gtr, e_geq, e_beq, e_bne, e_peq1, e_peq2, e_pne1, e_pne2, e_zeq1, e_zeq2, e_zne1, e_zne2, e_feq1, e_fne1, e_feq2, e_fne2, e_seq, e_sne, e_ta1, e_ta2, Nat.zero_add, Nat.add_zero, Bool.not_true, Bool.not_false]
          refine ld1_r (v := I C.rt) r rfl ?_
          try simp only [e_fd, e_nck, e_pkt, e_pkf, e_gdtt, e_gdtf, e_gdft, e_gdff, e_ift, e_iff, e_not, e_ln, e_lnT, e_cp, e_cvi, e_ex20, e_ex21, e_ex30, e_ex31, e_ex32, e_add, e_sub, e_mul, e_quo, e_rem, e_and, e_or, e_xor, e_shl, e_shr, e_eql, e_neq, e_lss, e_leq, e_gtr, e_geq, e_beq, e_bne, e_peq1, e_peq2, e_pne1, e_pne2, e_zeq1, e_zeq2, e_zne1, e_zne2, e_feq1, e_fne1, e_feq2, e_fne2, e_seq, e_sne, e_ta1, e_ta2, Nat.zero_add, Nat.add_zero, Bool.not_true, Bool.not_false]
          rw [fst0_eq hl1, wrap64_id (by omega) (by omega)]
          cases hq : decide ((fst0 rs[i]).s + C.rt ≤ now) with
          | false =>
            try simp only [e_fd, e_nck, e_pkt, e_pkf, e_gdtt, e_gdtf, e_gdft, e_gdff, e_ift, e_iff, e_not, e_ln, e_lnT, e_cp, e_cvi, e_ex20, e_ex21, e_ex30, e_ex31, e_ex32, e_add, e_sub, e_mul, e_quo, e_rem, e_and, e_or, e_xor, e_shl, e_shr, e_eql, e_neq, e_lss, e_leq, e_gtr, e_geq, e_beq, e_bne, e_peq1, e_peq2, e_pne1, e_pne2, e_zeq1, e_zeq2, e_zne1, e_zne2, e_feq1, e_fne1, e_feq2, e_fne2, e_seq, e_sne, e_ta1, e_ta2, Nat.zero_add, Nat.add_zero, Bool.not_true, Bool.not_false]
            exact no (by unfold isL; rw [hq, Bool.and_false])
          | true =>
            have hL : isL C now rs[i] = true := by unfold isL; rw [hq, decide_eq_true h8]; rfl
            rw [hL, if_pos rfl] at cL
            unfold s237_p5
            try simp only [e_fd, e_nck, e_pkt, e_pkf, e_gdtt, e_gdtf, e_gdft, e_gdff, e_ift, e_iff, e_not, e_ln, e_lnT, e_cp, e_cvi, e_ex20, e_ex21, e_ex30, e_ex31, e_ex32, e_add, e_sub, e_mul, e_quo, e_rem, e_and, e_or, e_xor, e_shl, e_shr, e_eql, e_neq, e_lss, e_leq, e_gtr, e_geq, e_beq, e_bne, e_peq1, e_peq2, e_pne1, e_pne2, e_zeq1, e_zeq2, e_zne1, e_zne2, e_feq1, e_fne1, e_feq2, e_fne2, e_seq, e_sne, e_ta1, e_ta2, Nat.zero_add, Nat.add_zero, Bool.not_true, Bool.not_false]
            refine tb_status tb4 hi2 fun w5 tb5 hk5 hz5 => ?_
            rw [inc _ (by omega)]
            refine go w5 _ _ _ _ (k4.none.trans (ku hk5)) tb5 ?_ (by omega) (by omega) (by omega)
            rw [hset, hg]
            exact hnext _ (by unfold swR; rw [hE, hS, hL]; rfl)
        · rw [decide_eq_false h8]
          try simp only [e_fd, e_nck, e_pkt, e_pkf, e_gdtt, e_gdtf, e_gdft, e_gdff, e_ift, e_iff, e_not, e_ln, e_lnT, e_cp, e_cvi, e_ex20, e_ex21, e_ex30, e_ex31, e_ex32, e_add, e_sub, e_mul, e_quo, e_rem, e_and, e_or, e_xor, e_shl, e_shr, e_eql, e_neq, e_lss, e_leq, e_gtr, e_geq, e_beq, e_bne, e_peq1, e_peq2, e_pne1, e_pne2, e_zeq1, e_zeq2, e_zne1, e_zne2, e_feq1, e_fne1, e_feq2, e_fne2, e_seq, e_sne, e_ta1, e_ta2, Nat.zero_add, Nat.add_zero, Bool.not_true, Bool.not_false]
          exact no (by unfold isL; rw [decide_eq_false h8, Bool.false_and])
      unfold s237_p8 s237_p8_d
      have kd : Kp Emp w2 (drw w2) := kp_drw
      generalize drw w2 = w3 at kd ⊢
      have tb3 := tb2.kp' kd
      try simp only [e_fd, e_nck, e_pkt, e_pkf, e_gdtt, e_gdtf, e_gdft, e_gdff, e_ift, e_iff, e_not, e_ln, e_lnT, e_cp, e_cvi, e_ex20, e_ex21, e_ex30, e_ex31, e_ex32, e_add, e_sub, e_mul, e_quo, e_rem, e_and, e_or, e_xor, e_shl, e_shr, e_eql, e_neq, e_lss, e_leq, e_gtr, e_geq, e_beq, e_bne, e_peq1, e_peq2, e_pne1, e_pne2, e_zeq1, e_zeq2, e_zne1, e_zne2, e_feq1, e_fne1, e_feq2, e_fne2, e_seq, e_sne, e_ta1, e_ta2, Nat.zero_add, Nat.add_zero, Bool.not_true, Bool.not_false]
      refine tb_ld (j := 1) (x := I rs[i].st) tb3 hi2 (by decide) (fun _ => by rw [hg]; rfl) ?_
      simp only [eqi, e_fd, e_nck, e_pkt, e_pkf, e_gdtt, e_gdtf, e_gdft, e_gdff, e_ift, e_iff, e_not, e_ln, e_lnT, e_cp, e_cvi, e_ex20, e_ex21, e_ex30, e_ex31, e_ex32, e_add, e_sub, e_mul, e_quo, e_rem, e_and, e_or, e_xor, e_shl, e_shr, e_eql, e_neq, e_lss, e_leq, e_gtr, e_geq, e_beq, e_bne, e_peq1, e_peq2, e_pne1, e_pne2, e_zeq1, e_zeq2, e_zne1, e_zne2, e_feq1, e_fne1, e_feq2, e_fne2, e_seq, e_sne, e_ta1, e_ta2, Nat.zero_add, Nat.add_zero, Bool.not_true, Bool.not_false]
      by_cases h2 : rs[i].st = 2
      · have hl1 := hT.lv _ hmem (by rw [h2]; rfl)
        have hs1 := rb.lg _ (fst0_mem hl1)
        rw [decide_eq_true h2]
        try simp only [e_fd, e_nck, e_pkt, e_pkf, e_gdtt, e_gdtf, e_gdft, e_gdff, e_ift, e_iff, e_not, e_ln, e_lnT, e_cp, e_cvi, e_ex20, e_ex21, e_ex30, e_ex31, e_ex32, e_add, e_sub, e_mul, e_quo, e_rem, e_and, e_or, e_xor, e_shl, e_shr, e_eql, e_neq, e_lss, e_leq, e_gtr, e_geq, e_beq, e_bne, e_peq1, e_peq2, e_pne1, e_pne2, e_zeq1, e_zeq2, e_zne1, e_zne2, e_feq1, e_fne1, e_feq2, e_fne2, e_seq, e_sne, e_ta1, e_ta2, Nat.zero_add, Nat.add_zero, Bool.not_true, Bool.not_false]
        refine tb_lg tb3 hi2 fun lv hlv => ?_
        rw [hg] at hlv
        try simp only [e_fd, e_nck, e_pkt, e_pkf, e_gdtt, e_gdtf, e_gdft, e_gdff, e_ift, e_iff, e_not, e_ln, e_lnT, e_cp, e_cvi, e_ex20, e_ex21, e_ex30, e_ex31, e_ex32, e_add, e_sub, e_mul, e_quo, e_rem, e_and, e_or, e_xor, e_shl, e_shr, e_eql, e_neq, e_lss, e_leq, e_gtr, e_geq, e_beq, e_bne, e_peq1, e_peq2, e_pne1, e_pne2, e_zeq1, e_zeq2, e_zne1, e_zne2, e_feq1, e_fne1, e_feq2, e_fne2, e_seq, e_sne, e_ta1, e_ta2, Nat.zero_add, Nat.add_zero, Bool.not_true, Bool.not_false]
        refine hlv.ix (i := 0) (by omega) fun bb o _ hcl => ?_
        try simp only [e_fd, e_nck, e_pkt, e_pkf, e_gdtt, e_gdtf, e_gdft, e_gdff, e_ift, e_iff, e_not, e_ln, e_lnT, e_cp, e_cvi, e_ex20, e_ex21, e_ex30, e_ex31, e_ex32, e_add, e_sub, e_mul, e_quo, e_rem, e_and, e_or, e_xor, e_shl, e_shr, e_eql, e_neq, e_lss, e_leq, e_gtr, e_geq, e_beq, e_bne, e_peq1, e_peq2, e_pne1, e_pne2, e_zeq1, e_zeq2, e_zne1, e_zne2, e_feq1, e_fne1, e_feq2, e_fne2, e_seq, e_sne, e_ta1, e_ta2, Nat.zero_add, Nat.add_zero, Bool.not_true, Bool.not_false]
        refine hcl.ld1 (j := 1) rfl ?_
        obtain ⟨cl, rv, r, hcg, _⟩ := tb3.ex
        obtain ⟨va, vt, rfl, _⟩ := hcg.ex
        try simp only [e_fd, e_nck, e_pkt, e_pkf, e_gdtt, e_gdtf, e_gdft, e_gdff, e_ift, e_iff, e_not, e_ln, e_lnT, e_cp, e_cvi, e_ex20, e_ex21, e_ex30, e_ex31, e_ex32, e_add, e_sub, e_mul, e_quo, e_rem, e_and, e_or, e_xor, e_shl, e_shr, e_eql, e_neq, e_lss, e_leq, e_gtr, e_geq, e_beq, e_bne, e_peq1, e_peq2, e_pne1, e_pne2, e_zeq1, e_zeq2, e_zne1, e_zne2, e_feq1, e_fne1, e_feq2, e_fne2, e_seq, e_sne, e_ta1, e_ta2, Nat.zero_add, Nat.add_zero, Bool.not_true, Bool.not_false]
        refine ld1_r (v := I C.gr) r rfl ?_
        try simp only [e_fd, e_nck, e_pkt, e_pkf, e_gdtt, e_gdtf, e_gdft, e_gdff, e_ift, e_iff, e_not, e_ln, e_lnT, e_cp, e_cvi, e_ex20, e_ex21, e_ex30, e_ex31, e_ex32, e_add, e_sub, e_mul, e_quo, e_rem, e_and, e_or, e_xor, e_shl, e_shr, e_eql, e_neq, e_lss, e_leq, e_gtr, e_geq, e_beq, e_bne, e_peq1, e_peq2, e_pne1, e_pne2, e_zeq1, e_zeq2, e_zne1, e_zne2, e_feq1, e_fne1, e_feq2, e_fne2, e_seq, e_sne, e_ta1, e_ta2, Nat.zero_add, Nat.add_zero, Bool.not_true, Bool.not_false]
        rw [fst0_eq hl1, wrap64_id (by omega) (by omega)]
        unfold s237_p7
        cases hq : decide ((fst0 rs[i]).s + C.gr ≤ now) with
        | false =>
          try simp only [e_fd, e_nck, e_pkt, e_pkf, e_gdtt, e_gdtf, e_gdft, e_gdff, e_ift, e_iff, e_not, e_ln, e_lnT, e_cp, e_cvi, e_ex20, e_ex21, e_ex30, e_ex31, e_ex32, e_add, e_sub, e_mul, e_quo, e_rem, e_and, e_or, e_xor, e_shl, e_shr, e_eql, e_neq, e_lss, e_leq, e_gtr, e_geq, e_beq, e_bne, e_peq1, e_peq2, e_pne1, e_pne2, e_zeq1, e_zeq2, e_zne1, e_zne2, e_feq1, e_fne1, e_feq2, e_fne2, e_seq, e_sne, e_ta1, e_ta2, Nat.zero_add, Nat.add_zero, Bool.not_true, Bool.not_false]
          exact p6 (by unfold isS; rw [hq, Bool.and_false]) w3 kd
        | true =>
          have hS : isS C now rs[i] = true := by unfold isS; rw [hq, decide_eq_true h2]; rfl
          have hL : isL C now rs[i] = false := by unfold isL; rw [decide_eq_false (by omega), Bool.false_and]
          rw [hS, if_pos rfl] at cS
          rw [hL, if_neg (by simp)] at cL
          unfold s237_p4
          try simp only [e_fd, e_nck, e_pkt, e_pkf, e_gdtt, e_gdtf, e_gdft, e_gdff, e_ift, e_iff, e_not, e_ln, e_lnT, e_cp, e_cvi, e_ex20, e_ex21, e_ex30, e_ex31, e_ex32, e_add, e_sub, e_mul, e_quo, e_rem, e_and, e_or, e_xor, e_shl, e_shr, e_eql, e_neq, e_lss, e_leq, e_gtr, e_geq, e_beq, e_bne, e_peq1, e_peq2, e_pne1, e_pne2, e_zeq1, e_zeq2, e_zne1, e_zne2, e_feq1, e_fne1, e_feq2, e_fne2, e_seq, e_sne, e_ta1, e_ta2, Nat.zero_add, Nat.add_zero, Bool.not_true, Bool.not_false]
          refine tb_status tb3 hi2 fun w5 tb5 hk5 hz5 => ?_
          rw [inc _ (by omega)]
          refine go w5 _ _ _ _ (kd.none.trans (ku hk5)) tb5 ?_ (by omega) (by omega) (by omega)
          rw [hset, hg]
          exact hnext _ (by unfold swR; rw [hE, hS]; rfl)
      · rw [decide_eq_false h2]
        try simp only [e_fd, e_nck, e_pkt, e_pkf, e_gdtt, e_gdtf, e_gdft, e_gdff, e_ift, e_iff, e_not, e_ln, e_lnT, e_cp, e_cvi, e_ex20, e_ex21, e_ex30, e_ex31, e_ex32, e_add, e_sub, e_mul, e_quo, e_rem, e_and, e_or, e_xor, e_shl, e_shr, e_eql, e_neq, e_lss, e_leq, e_gtr, e_geq, e_beq, e_bne, e_peq1, e_peq2, e_pne1, e_pne2, e_zeq1, e_zeq2, e_zne1, e_zne2, e_feq1, e_fne1, e_feq2, e_fne2, e_seq, e_sne, e_ta1, e_ta2, Nat.zero_add, Nat.add_zero, Bool.not_true, Bool.not_false]
        unfold s237_p7
        try simp only [e_fd, e_nck, e_pkt, e_pkf, e_gdtt, e_gdtf, e_gdft, e_gdff, e_ift, e_iff, e_not, e_ln, e_lnT, e_cp, e_cvi, e_ex20, e_ex21, e_ex30, e_ex31, e_ex32, e_add, e_sub, e_mul, e_quo, e_rem, e_and, e_or, e_xor, e_shl, e_shr, e_eql, e_neq, e_lss, e_leq, e_gtr, e_geq, e_beq, e_bne, e_peq1, e_peq2, e_pne1, e_pne2, e_zeq1, e_zeq2, e_zne1, e_zne2, e_feq1, e_fne1, e_feq2, e_fne2, e_seq, e_sne, e_ta1, e_ta2, Nat.zero_add, Nat.add_zero, Bool.not_true, Bool.not_false]
        exact p6 (by unfold isS; rw [decide_eq_false h2, Bool.false_and]) w3 kd
    by_cases h1 : rs[i].st = 1
    · rw [decide_eq_true h1]
      try simp only [e_fd, e_nck, e_pkt, e_pkf, e_gdtt, e_gdtf, e_gdft, e_gdff, e_ift, e_iff, e_not, e_ln, e_lnT, e_cp, e_cvi, e_ex20, e_ex21, e_ex30, e_ex31, e_ex32, e_add, e_sub, e_mul, e_quo, e_rem, e_and, e_or, e_xor, e_shl, e_shr, e_eql, e_neq, e_lss, e_leq, e_gtr, e_geq, e_beq, e_bne, e_peq1, e_peq2, e_pne1, e_pne2, e_zeq1, e_zeq2, e_zne1, e_zne2, e_feq1, e_fne1, e_feq2, e_fne2, e_seq, e_sne, e_ta1, e_ta2, Nat.zero_add, Nat.add_zero, Bool.not_true, Bool.not_false]
      refine tb_ld (j := 5) (x := I rs[i].ex) tb2 hi2 (by decide) (fun _ => by rw [hg]; rfl) ?_
      try simp only [e_fd, e_nck, e_pkt, e_pkf, e_gdtt, e_gdtf, e_gdft, e_gdff, e_ift, e_iff, e_not, e_ln, e_lnT, e_cp, e_cvi, e_ex20, e_ex21, e_ex30, e_ex31, e_ex32, e_add, e_sub, e_mul, e_quo, e_rem, e_and, e_or, e_xor, e_shl, e_shr, e_eql, e_neq, e_lss, e_leq, e_gtr, e_geq, e_beq, e_bne, e_peq1, e_peq2, e_pne1, e_pne2, e_zeq1, e_zeq2, e_zne1, e_zne2, e_feq1, e_fne1, e_feq2, e_fne2, e_seq, e_sne, e_ta1, e_ta2, Nat.zero_add, Nat.add_zero, Bool.not_true, Bool.not_false]
      unfold s237_p9
      cases hq : decide (rs[i].ex ≤ now) with
      | false =>
        try simp only [e_fd, e_nck, e_pkt, e_pkf, e_gdtt, e_gdtf, e_gdft, e_gdff, e_ift, e_iff, e_not, e_ln, e_lnT, e_cp, e_cvi, e_ex20, e_ex21, e_ex30, e_ex31, e_ex32, e_add, e_sub, e_mul, e_quo, e_rem, e_and, e_or, e_xor, e_shl, e_shr, e_eql, e_neq, e_lss, e_leq, e_gtr, e_geq, e_beq, e_bne, e_peq1, e_peq2, e_pne1, e_pne2, e_zeq1, e_zeq2, e_zne1, e_zne2, e_feq1, e_fne1, e_feq2, e_fne2, e_seq, e_sne, e_ta1, e_ta2, Nat.zero_add, Nat.add_zero, Bool.not_true, Bool.not_false]
        exact p8 (by unfold isE; rw [hq, Bool.and_false])
      | true =>
        have hE : isE now rs[i] = true := by unfold isE; rw [hq, decide_eq_true h1]; rfl
        have hS : isS C now rs[i] = false := by unfold isS; rw [decide_eq_false (by omega), Bool.false_and]
        have hL : isL C now rs[i] = false := by unfold isL; rw [decide_eq_false (by omega), Bool.false_and]
        rw [hE, if_pos rfl] at cE
        rw [hS, if_neg (by simp)] at cS
        rw [hL, if_neg (by simp)] at cL
        unfold s237_p3
        try simp only [e_fd, e_nck, e_pkt, e_pkf, e_gdtt, e_gdtf, e_gdft, e_gdff, e_ift, e_iff, e_not, e_ln, e_lnT, e_cp, e_cvi, e_ex20, e_ex21, e_ex30, e_ex31, e_ex32, e_add, e_sub, e_mul, e_quo, e_rem, e_and, e_or, e_xor, e_shl, e_shr, e_eql, e_neq, e_lss, e_leq, e_gtr, e_geq, e_beq, e_bne, e_peq1, e_peq2, e_pne1, e_pne2, e_zeq1, e_zeq2, e_zne1, e_zne2, e_feq1, e_fne1, e_feq2, e_fne2, e_seq, e_sne, e_ta1, e_ta2, Nat.zero_add, Nat.add_zero, Bool.not_true, Bool.not_false]
        refine tb_status tb2 hi2 fun w5 tb5 hk5 hz5 => ?_
        rw [inc _ (by omega)]
        refine go w5 _ _ _ _ (ku hk5) tb5 ?_ (by omega) (by omega) (by omega)
        rw [hset, hg]
        exact hnext _ (by unfold swR; rw [hE]; rfl)
    · rw [decide_eq_false h1]
      try simp only [e_fd, e_nck, e_pkt, e_pkf, e_gdtt, e_gdtf, e_gdft, e_gdff, e_ift, e_iff, e_not, e_ln, e_lnT, e_cp, e_cvi, e_ex20, e_ex21, e_ex30, e_ex31, e_ex32, e_add, e_sub, e_mul, e_quo, e_rem, e_and, e_or, e_xor, e_shl, e_shr, e_eql, e_neq, e_lss, e_leq, e_gtr, e_geq, e_beq, e_bne, e_peq1, e_peq2, e_pne1, e_pne2, e_zeq1, e_zeq2, e_zne1, e_zne2, e_feq1, e_fne1, e_feq2, e_fne2, e_seq, e_sne, e_ta1, e_ta2, Nat.zero_add, Nat.add_zero, Bool.not_true, Bool.not_false]
      unfold s237_p9
      try simp only [e_fd, e_nck, e_pkt, e_pkf, e_gdtt, e_gdtf, e_gdft, e_gdff, e_ift, e_iff, e_not, e_ln, e_lnT, e_cp, e_cvi, e_ex20, e_ex21, e_ex30, e_ex31, e_ex32, e_add, e_sub, e_mul, e_quo, e_rem, e_and, e_or, e_xor, e_shl, e_shr, e_eql, e_neq, e_lss, e_leq, e_gtr, e_geq, e_beq, e_bne, e_peq1, e_peq2, e_pne1, e_pne2, e_zeq1, e_zeq2, e_zne1, e_zne2, e_feq1, e_fne1, e_feq2, e_fne2, e_seq, e_sne, e_ta1, e_ta2, Nat.zero_add, Nat.add_zero, Bool.not_true, Bool.not_false]
      exact p8 (by unfold isE; rw [decide_eq_false h1, Bool.false_and])
  · rintro l w2 ⟨rfl, k2, tb2⟩ B
    rw [s237_p13_Fe]
    unfold s237_p12
    try simp only [e_fd, e_nck, e_pkt, e_pkf, e_gdtt, e_gdtf, e_gdft, e_gdff, e_ift, e_iff, e_not, e_ln, e_lnT, e_cp, e_cvi, e_ex20, e_ex21, e_ex30, e_ex31, e_ex32, e_add, e_sub, e_mul, e_quo, e_rem, e_and, e_or, e_xor, e_shl, e_shr, e_eql, e_neq, e_lss, e_leq, e_gtr, e_geq, e_beq, e_bne, e_peq1, e_peq2, e_pne1, e_pne2, e_zeq1, e_zeq2, e_zne1, e_zne2, e_feq1, e_fne1, e_feq2, e_fne2, e_seq, e_sne, e_ta1, e_ta2, Nat.zero_add, Nat.add_zero, Bool.not_true, Bool.not_false]
    rw [dnlt]
    try simp only [e_fd, e_nck, e_pkt, e_pkf, e_gdtt, e_gdtf, e_gdft, e_gdff, e_ift, e_iff, e_not, e_ln, e_lnT, e_cp, e_cvi, e_ex20, e_ex21, e_ex30, e_ex31, e_ex32, e_add, e_sub, e_mul, e_quo, e_rem, e_and, e_or, e_xor, e_shl, e_shr, e_eql, e_neq, e_lss, e_leq, e_gtr, e_geq, e_beq, e_bne, e_peq1, e_peq2, e_pne1, e_pne2, e_zeq1, e_zeq2, e_zne1, e_zne2, e_feq1, e_fne1, e_feq2, e_fne2, e_seq, e_sne, e_ta1, e_ta2, Nat.zero_add, Nat.add_zero, Bool.not_true, Bool.not_false]
    unfold s237_p1
    rw [List.take_length, List.drop_length, List.append_nil] at tb2
    rw [List.take_length]
    exact hK w2 M rob (Ext.same h.lt k2) k2 (fun b q => .inl q) tb2
end
end Go.Proofs.Qxb6500896aGreat
