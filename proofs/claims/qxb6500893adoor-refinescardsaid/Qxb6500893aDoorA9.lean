import Derived.Test.Qxb6500893aDoorA8
namespace Go.Proofs.Qxb6500893aDoor
open Go.Sh Go.RowKit
set_option linter.unusedVariables false
set_option linter.unusedSimpArgs false

def forgetL (L : List Lb) (a : Nat) : List Lb := match L.findIdx? (fun x => x.at_ == a) with
  | some i => L.eraseIdx i
  | none => L
theorem forget_none {L : List Lb} {a : Nat} (h : ∀ i (hi : i < L.length), L[i].at_ ≠ a) : forgetL L a = L := by
  unfold forgetL
  rw [List.findIdx?_eq_none_iff.2 (fun x hx => by obtain ⟨i, hi, rfl⟩ := List.getElem_of_mem hx; simpa using h i hi)]
theorem forget_some {L : List Lb} {a j : Nat} (hj : j < L.length) (h : L[j].at_ = a) (h' : ∀ i (hi : i < L.length), i < j → L[i].at_ ≠ a) : forgetL L a = L.take j ++ L.drop (j + 1) := by
  unfold forgetL
  have : L.findIdx? (fun x => x.at_ == a) = some j := by
    rw [List.findIdx?_eq_some_iff_getElem]
    exact ⟨hj, by simpa using h, fun i hi => by have := h' i (by omega) hi; simpa using this⟩
  rw [this]
  exact List.eraseIdx_eq_take_drop_succ _ _

section
variable {w w' : World} {K : Value → World → Prop} {lob : Option Nat} {lv : Value} {L : List Lb} {wdb a : Nat} {x0 x1 x2 : Value}

theorem Sl.get {α : Type} {f : α → List Value} {k : Nat} {e : TypeId} {ob : Option Nat} {v : Value} {xs : List α} (h : Sl f k w e ob v xs) (hx : 0 < xs.length) :
    ∃ b cap junk, ob = some b ∧ v = .slice (some ⟨b, 0, none⟩) xs.length cap ∧ xs.length ≤ cap ∧ junk.length = (cap - xs.length) * k ∧ Row w b e (rows f xs ++ junk) := by
  cases ob with
  | none => obtain ⟨_, e⟩ := h; rw [e] at hx; simp at hx
  | some b => obtain ⟨cap, junk, h1, h2, h3, h4⟩ := h; exact ⟨b, cap, junk, rfl, h1, h2, h3, h4⟩

theorem fst_s {ad : Addr} {size n m cap : Nat} {k : List Value → Prop} (h : Go.Sh.ldc ad w 0 (n * size) k) : fst' size n (.slice (some ad) m cap) w k := h

theorem ldc_mn {ad : Addr} {k k' : List Value → Prop} (hkk : ∀ vs, k vs → k' vs) : ∀ (n i : Nat), Go.Sh.ldc ad w i n k → Go.Sh.ldc ad w i n k'
  | 0, i, h => hkk _ h
  | n + 1, i, h => by
    obtain ⟨v, h1, h2⟩ := h
    exact ⟨v, h1, ldc_mn (fun vs => hkk (v :: vs)) n (i + 1) h2⟩
theorem fst_eq {size n : Nat} {v : Value} {X : List Value} {k : List Value → Prop} (h : fst' size n v w (fun vs => vs = X)) (hk : k X) : fst' size n v w k := by
  cases v with
  | slice o n' c =>
    cases o with
    | none => obtain ⟨h1, h2⟩ := h; exact ⟨h1, by rw [h2]; exact hk⟩
    | some ad => exact ldc_mn (fun vs e => by rw [e]; exact hk) _ _ h
  | _ => exact h.elim
theorem rows_scal (L : List Lb) : (rows lbV L).all scal = true := by
  induction L with
  | nil => rfl
  | cons x L ih => rw [rows_cons, List.all_append, ih]; rfl

theorem forget_ok (hr : Row w wdb 50 [x0, x1, x2, lv]) (hl : Lv w lob lv L) (hL : L.length ≤ 1000000)
    (hK : ∀ w' lv', Row w' wdb 50 [x0, x1, x2, lv'] → Lv w' lob lv' (forgetL L a) → Kp (fun b => b = wdb ∨ lob = some b) w w' → K (.tuple #[]) w') : cl Tryd.prog 39 #[P wdb 0, U32 a] K w := by
  apply c39
  unfold s39_p8
  try simp only [e_fd, e_nck, e_pkt, e_pkf, e_gdtt, e_gdtf, e_gdft, e_gdff, e_ift, e_iff, e_not, e_ln, e_lnT, e_cp, e_cvi, e_ex20, e_ex21, e_ex30, e_ex31, e_ex32, e_add, e_sub, e_mul, e_quo, e_rem, e_and, e_or, e_xor, e_shl, e_shr, e_eql, e_neq, e_lss, e_leq, e_gtr, e_geq, e_beq, e_bne, e_peq1, e_peq2, e_pne1, e_pne2, e_zeq1, e_zeq2, e_zne1, e_zne2, e_feq1, e_fne1, e_feq2, e_fne2, e_seq, e_sne, e_ta1, e_ta2, Nat.zero_add, Nat.add_zero, Bool.not_true, Bool.not_false]
  refine ld1_r hr rfl ?_
  refine hl.sl.ln ?_
  refine ⟨fun n l w' => w' = w ∧ ∃ j : Nat, j ≤ L.length ∧ n = L.length - j ∧ l = [P wdb 0, U32 a, I L.length, I j] ∧ ∀ i (hi : i < L.length), i < j → L[i].at_ ≠ a,
    L.length, ⟨rfl, 0, by omega, by omega, rfl, fun i _ h => by omega⟩, ?_⟩
  rintro n l w' ⟨rfl, j, hj, rfl, rfl, hno⟩
  rw [s39_p7_Fe]
  unfold s39_p6
  try simp only [e_fd, e_nck, e_pkt, e_pkf, e_gdtt, e_gdtf, e_gdft, e_gdff, e_ift, e_iff, e_not, e_ln, e_lnT, e_cp, e_cvi, e_ex20, e_ex21, e_ex30, e_ex31, e_ex32, e_add, e_sub, e_mul, e_quo, e_rem, e_and, e_or, e_xor, e_shl, e_shr, e_eql, e_neq, e_lss, e_leq, e_gtr, e_geq, e_beq, e_bne, e_peq1, e_peq2, e_pne1, e_pne2, e_zeq1, e_zeq2, e_zne1, e_zne2, e_feq1, e_fne1, e_feq2, e_fne2, e_seq, e_sne, e_ta1, e_ta2, Nat.zero_add, Nat.add_zero, Bool.not_true, Bool.not_false]
  by_cases hlt : j < L.length
  · have hlt' : (j : Int) < ((L.length : Nat) : Int) := by omega
    simp only [hlt', decide_true, e_fd, e_nck, e_pkt, e_pkf, e_gdtt, e_gdtf, e_gdft, e_gdff, e_ift, e_iff, e_not, e_ln, e_lnT, e_cp, e_cvi, e_ex20, e_ex21, e_ex30, e_ex31, e_ex32, e_add, e_sub, e_mul, e_quo, e_rem, e_and, e_or, e_xor, e_shl, e_shr, e_eql, e_neq, e_lss, e_leq, e_gtr, e_geq, e_beq, e_bne, e_peq1, e_peq2, e_pne1, e_pne2, e_zeq1, e_zeq2, e_zne1, e_zne2, e_feq1, e_fne1, e_feq2, e_fne2, e_seq, e_sne, e_ta1, e_ta2, Nat.zero_add, Nat.add_zero, Bool.not_true, Bool.not_false]
    unfold s39_p5
    try simp only [e_fd, e_nck, e_pkt, e_pkf, e_gdtt, e_gdtf, e_gdft, e_gdff, e_ift, e_iff, e_not, e_ln, e_lnT, e_cp, e_cvi, e_ex20, e_ex21, e_ex30, e_ex31, e_ex32, e_add, e_sub, e_mul, e_quo, e_rem, e_and, e_or, e_xor, e_shl, e_shr, e_eql, e_neq, e_lss, e_leq, e_gtr, e_geq, e_beq, e_bne, e_peq1, e_peq2, e_pne1, e_pne2, e_zeq1, e_zeq2, e_zne1, e_zne2, e_feq1, e_fne1, e_feq2, e_fne2, e_seq, e_sne, e_ta1, e_ta2, Nat.zero_add, Nat.add_zero, Bool.not_true, Bool.not_false]
    refine ld1_r hr rfl ?_
    refine hl.sl.ix lbV_len hlt fun b1 l1 hb1 hr1 hj1 hl1 _ => ?_
    try simp only [e_fd, e_nck, e_pkt, e_pkf, e_gdtt, e_gdtf, e_gdft, e_gdff, e_ift, e_iff, e_not, e_ln, e_lnT, e_cp, e_cvi, e_ex20, e_ex21, e_ex30, e_ex31, e_ex32, e_add, e_sub, e_mul, e_quo, e_rem, e_and, e_or, e_xor, e_shl, e_shr, e_eql, e_neq, e_lss, e_leq, e_gtr, e_geq, e_beq, e_bne, e_peq1, e_peq2, e_pne1, e_pne2, e_zeq1, e_zeq2, e_zne1, e_zne2, e_feq1, e_fne1, e_feq2, e_fne2, e_seq, e_sne, e_ta1, e_ta2, Nat.zero_add, Nat.add_zero, Bool.not_true, Bool.not_false]
    refine ld1_r hr1 (v := U32 L[j].at_) (by rw [hj1 1 (by decide)]; rfl) ?_
    try simp only [e_fd, e_nck, e_pkt, e_pkf, e_gdtt, e_gdtf, e_gdft, e_gdff, e_ift, e_iff, e_not, e_ln, e_lnT, e_cp, e_cvi, e_ex20, e_ex21, e_ex30, e_ex31, e_ex32, e_add, e_sub, e_mul, e_quo, e_rem, e_and, e_or, e_xor, e_shl, e_shr, e_eql, e_neq, e_lss, e_leq, e_gtr, e_geq, e_beq, e_bne, e_peq1, e_peq2, e_pne1, e_pne2, e_zeq1, e_zeq2, e_zne1, e_zne2, e_feq1, e_fne1, e_feq2, e_fne2, e_seq, e_sne, e_ta1, e_ta2, Nat.zero_add, Nat.add_zero, Bool.not_true, Bool.not_false]
    unfold s39_p4
    by_cases e : L[j].at_ = a
    · have e' : (((L[j].at_ : Nat) : Int) == ((a : Nat) : Int)) = true := by rw [beq_iff_eq]; omega
      simp only [e', e_fd, e_nck, e_pkt, e_pkf, e_gdtt, e_gdtf, e_gdft, e_gdff, e_ift, e_iff, e_not, e_ln, e_lnT, e_cp, e_cvi, e_ex20, e_ex21, e_ex30, e_ex31, e_ex32, e_add, e_sub, e_mul, e_quo, e_rem, e_and, e_or, e_xor, e_shl, e_shr, e_eql, e_neq, e_lss, e_leq, e_gtr, e_geq, e_beq, e_bne, e_peq1, e_peq2, e_pne1, e_pne2, e_zeq1, e_zeq2, e_zne1, e_zne2, e_feq1, e_fne1, e_feq2, e_fne2, e_seq, e_sne, e_ta1, e_ta2, Nat.zero_add, Nat.add_zero, Bool.not_true, Bool.not_false]
      unfold s39_p3 s39_p3_d
      try simp only [e_fd, e_nck, e_pkt, e_pkf, e_gdtt, e_gdtf, e_gdft, e_gdff, e_ift, e_iff, e_not, e_ln, e_lnT, e_cp, e_cvi, e_ex20, e_ex21, e_ex30, e_ex31, e_ex32, e_add, e_sub, e_mul, e_quo, e_rem, e_and, e_or, e_xor, e_shl, e_shr, e_eql, e_neq, e_lss, e_leq, e_gtr, e_geq, e_beq, e_bne, e_peq1, e_peq2, e_pne1, e_pne2, e_zeq1, e_zeq2, e_zne1, e_zne2, e_feq1, e_fne1, e_feq2, e_fne2, e_seq, e_sne, e_ta1, e_ta2, Nat.zero_add, Nat.add_zero, Bool.not_true, Bool.not_false]
      obtain ⟨lb, cap, junk, hob, hv, hcap, hjl, hrow⟩ := Sl.get hl.sl (by omega)
      have hrl : (rows lbV L).length = L.length * 3 := rows_length lbV_len L
      have hd := hrow.drw
      subst hv
      refine ld1_r hr.drw rfl ?_
      refine ⟨⟨by omega, by omega, by omega⟩, ?_⟩
      have e1 : (if cap = ((0 : Nat) : Int).toNat then (some (⟨lb, 0, none⟩ : Addr)) else (some (⟨lb, 0, none⟩ : Addr)).map (·.add (((0 : Nat) : Int).toNat * 3))) = some ⟨lb, 0, none⟩ := by
        split
        · rfl
        · show some ((⟨lb, 0, none⟩ : Addr).add (0 * 3)) = _; rw [add_mk]
      have e2 : ((j : Int)).toNat - ((0 : Nat) : Int).toNat = j := by omega
      have e3 : cap - ((0 : Nat) : Int).toNat = cap := by omega
      rw [e1, e2, e3]
      refine ld1_r hr.drw rfl ?_
      try simp only [e_fd, e_nck, e_pkt, e_pkf, e_gdtt, e_gdtf, e_gdft, e_gdff, e_ift, e_iff, e_not, e_ln, e_lnT, e_cp, e_cvi, e_ex20, e_ex21, e_ex30, e_ex31, e_ex32, e_add, e_sub, e_mul, e_quo, e_rem, e_and, e_or, e_xor, e_shl, e_shr, e_eql, e_neq, e_lss, e_leq, e_gtr, e_geq, e_beq, e_bne, e_peq1, e_peq2, e_pne1, e_pne2, e_zeq1, e_zeq2, e_zne1, e_zne2, e_feq1, e_fne1, e_feq2, e_fne2, e_seq, e_sne, e_ta1, e_ta2, Nat.zero_add, Nat.add_zero, Bool.not_true, Bool.not_false]
      rw [show ((j : Int) + 1) = ((j + 1 : Nat) : Int) by omega, wrap64_id (by omega) (by omega)]
      refine ⟨⟨by omega, by omega, by omega⟩, ?_⟩
      have e4 : (((j + 1 : Nat) : Int)).toNat = j + 1 := by omega
      have e5 : ((L.length : Nat) : Int).toNat - (j + 1) = L.length - (j + 1) := by omega
      rw [e4, e5]
      -- the cells that move
      have src : fst' 3 (L.length - (j + 1)) (.slice (if cap = j + 1 then (some (⟨lb, 0, none⟩ : Addr)) else (some (⟨lb, 0, none⟩ : Addr)).map (·.add ((j + 1) * 3))) (L.length - (j + 1)) (cap - (j + 1))) (drw w') (fun vs => vs = rows lbV (L.drop (j + 1))) := by
        by_cases hz : L.length = j + 1
        · have ez : L.drop (j + 1) = [] := List.drop_of_length_le (by omega)
          rw [ez, show L.length - (j + 1) = 0 by omega]
          by_cases hc : cap = j + 1
          · rw [if_pos hc]; exact fst_0 rfl
          · rw [if_neg hc]; exact fst_0 rfl
        · rw [if_neg (by omega)]
          refine fst_s ?_
          have eA : (fun x : Addr => x.add ((j + 1) * 3)) ⟨lb, 0, none⟩ = ⟨lb, (j + 1) * 3, none⟩ := by show Addr.add _ _ = _; rw [add_mk, Nat.zero_add]
          rw [eA]
          have hc := Row.cells (o := (j + 1) * 3) (n := (L.length - (j + 1)) * 3) hd (by rw [List.length_append, hrl]; omega)
          have ecs : ((rows lbV L ++ junk).drop ((j + 1) * 3)).take ((L.length - (j + 1)) * 3) = rows lbV (L.drop (j + 1)) := by
            have es : rows lbV L = rows lbV (L.take (j + 1)) ++ rows lbV (L.drop (j + 1)) := by rw [← rows_append, List.take_append_drop]
            have el : (rows lbV (L.take (j + 1))).length = (j + 1) * 3 := by rw [rows_length lbV_len, List.length_take]; omega
            have el2 : (rows lbV (L.drop (j + 1))).length = (L.length - (j + 1)) * 3 := by rw [rows_length lbV_len, List.length_drop]
            rw [es, List.append_assoc, List.drop_left' el, List.take_left' el2]
          rw [ecs] at hc
          refine hc.ldc _ 0 _ (by rw [rows_length lbV_len, List.length_drop]; omega) ?_
          rw [List.drop_zero]
      refine ⟨by omega, by omega, fun _ => ?_, fun q => by omega⟩
      refine fst_eq src ?_
      have eB : (⟨lb, 0, none⟩ : Addr).add (j * [I 0, U32 0, nilS].length) = ⟨lb, j * 3, none⟩ := by rw [add_mk, Nat.zero_add]; rfl
      show stc ((⟨lb, 0, none⟩ : Addr).add (j * [I 0, U32 0, nilS].length)) 0 _ _ _
      rw [eB]
      have hrl2 : (rows lbV (L.drop (j + 1))).length = (L.length - (j + 1)) * 3 := by rw [rows_length lbV_len, List.length_drop]
      refine stc_r (rows lbV (L.drop (j + 1))) 0 (drw w') _ hd (by rw [hrl2, List.length_append, hrl]; omega) (rows_scal (L.drop (j + 1))) fun w3 r3 hk3 hz3 => ?_
      have e9 : (rows lbV L ++ junk).take (j * 3 + 0) ++ (rows lbV (L.drop (j + 1)) ++ (rows lbV L ++ junk).drop (j * 3 + 0 + (rows lbV (L.drop (j + 1))).length)) = rows lbV (forgetL L a) ++ (rows lbV L ++ junk).drop ((L.length - 1) * 3) := by
        rw [forget_some hlt e hno, rows_append, List.append_assoc, hrl2, Nat.add_zero, show j * 3 + (L.length - (j + 1)) * 3 = (L.length - 1) * 3 by omega]
        congr 1
        have es : rows lbV L = rows lbV (L.take j) ++ rows lbV (L.drop j) := by rw [← rows_append, List.take_append_drop]
        have el : (rows lbV (L.take j)).length = j * 3 := by rw [rows_length lbV_len, List.length_take]; omega
        rw [es, List.append_assoc, List.take_left' el]
      rw [e9] at r3
      have wn : ¬ wdb = lb := row_ne hr hrow (by decide)
      have hr3 := hk3.row hr.drw wn
      have hfl : (forgetL L a).length = L.length - 1 := by rw [forget_some hlt e hno, List.length_append, List.length_take, List.length_drop]; omega
      try simp only [e_fd, e_nck, e_pkt, e_pkf, e_gdtt, e_gdtf, e_gdft, e_gdff, e_ift, e_iff, e_not, e_ln, e_lnT, e_cp, e_cvi, e_ex20, e_ex21, e_ex30, e_ex31, e_ex32, e_add, e_sub, e_mul, e_quo, e_rem, e_and, e_or, e_xor, e_shl, e_shr, e_eql, e_neq, e_lss, e_leq, e_gtr, e_geq, e_beq, e_bne, e_peq1, e_peq2, e_pne1, e_pne2, e_zeq1, e_zeq2, e_zne1, e_zne2, e_feq1, e_fne1, e_feq2, e_fne2, e_seq, e_sne, e_ta1, e_ta2, Nat.zero_add, Nat.add_zero, Bool.not_true, Bool.not_false]
      rw [show j + (L.length - (j + 1)) = L.length - 1 by omega]
      refine st1_r hr3 (show 3 < 4 by decide) rfl fun w4 r4 hk4 hz4 => ?_
      unfold s39_p2
      have sub : ∀ x ∈ forgetL L a, x ∈ L := fun x hx => by
        rw [forget_some hlt e hno] at hx
        rcases List.mem_append.1 hx with q | q
        · exact List.mem_of_mem_take q
        · exact List.mem_of_mem_drop q
      have hk04 : Kp (fun b => b = wdb ∨ lob = some b) w' w4 := (kp_drw.trans (hk3.mono fun b _ (q : b = lb) => .inr (by rw [hob, q]))).trans (hk4.mono fun b _ q => .inl q)
      refine hK w4 _ r4 ⟨?_, fun x hx => hk04.row (hl.rw x (sub x hx)) ?_, ?_, fun x hx => hl.rng x (sub x hx)⟩ hk04
      · rw [hob]
        refine ⟨cap, (rows lbV L ++ junk).drop ((L.length - 1) * 3), by rw [hfl], by rw [hfl]; omega, ?_, hk4.row r3 (fun (q : _ = _) => wn q.symm)⟩
        rw [List.length_drop, List.length_append, hrl, hjl, hfl]
        omega
      · rintro (q | q)
        · exact row_ne (hl.rw x (sub x hx)) hr (by decide) q
        · rw [hob] at q; cases q; exact row_ne (hl.rw x (sub x hx)) hrow (by decide) rfl
      · rw [forget_some hlt e hno, List.map_append]
        have nd := hl.nd
        have : L.map (·.b) = (L.take j).map (·.b) ++ (L.drop j).map (·.b) := by rw [← List.map_append, List.take_append_drop]
        rw [this] at nd
        have nd' := List.nodup_append.1 nd
        have ed : L.drop j = L[j] :: L.drop (j + 1) := List.drop_eq_getElem_cons hlt
        rw [ed, List.map_cons] at nd'
        exact List.nodup_append.2 ⟨nd'.1, (List.nodup_cons.1 nd'.2.1).2, fun p hp q hq => nd'.2.2 p hp q (List.mem_cons_of_mem _ hq)⟩
    · have e' : (((L[j].at_ : Nat) : Int) == ((a : Nat) : Int)) = false := by rw [beq_eq_false_iff_ne]; omega
      simp only [e', e_fd, e_nck, e_pkt, e_pkf, e_gdtt, e_gdtf, e_gdft, e_gdff, e_ift, e_iff, e_not, e_ln, e_lnT, e_cp, e_cvi, e_ex20, e_ex21, e_ex30, e_ex31, e_ex32, e_add, e_sub, e_mul, e_quo, e_rem, e_and, e_or, e_xor, e_shl, e_shr, e_eql, e_neq, e_lss, e_leq, e_gtr, e_geq, e_beq, e_bne, e_peq1, e_peq2, e_pne1, e_pne2, e_zeq1, e_zeq2, e_zne1, e_zne2, e_feq1, e_fne1, e_feq2, e_fne2, e_seq, e_sne, e_ta1, e_ta2, Nat.zero_add, Nat.add_zero, Bool.not_true, Bool.not_false]
      unfold s39_p1
      try simp only [e_fd, e_nck, e_pkt, e_pkf, e_gdtt, e_gdtf, e_gdft, e_gdff, e_ift, e_iff, e_not, e_ln, e_lnT, e_cp, e_cvi, e_ex20, e_ex21, e_ex30, e_ex31, e_ex32, e_add, e_sub, e_mul, e_quo, e_rem, e_and, e_or, e_xor, e_shl, e_shr, e_eql, e_neq, e_lss, e_leq, e_gtr, e_geq, e_beq, e_bne, e_peq1, e_peq2, e_pne1, e_pne2, e_zeq1, e_zeq2, e_zne1, e_zne2, e_feq1, e_fne1, e_feq2, e_fne2, e_seq, e_sne, e_ta1, e_ta2, Nat.zero_add, Nat.add_zero, Bool.not_true, Bool.not_false]
      rw [wrap64_id (by omega) (by omega)]
      refine ⟨L.length - (j + 1), by omega, by trivial, j + 1, by omega, rfl, by simp, fun i hi hij => ?_⟩
      by_cases q : i = j
      · subst q; exact e
      · exact hno i hi (by omega)
  · have hlt' : ¬ (j : Int) < ((L.length : Nat) : Int) := by omega
    simp only [hlt', decide_false, e_fd, e_nck, e_pkt, e_pkf, e_gdtt, e_gdtf, e_gdft, e_gdff, e_ift, e_iff, e_not, e_ln, e_lnT, e_cp, e_cvi, e_ex20, e_ex21, e_ex30, e_ex31, e_ex32, e_add, e_sub, e_mul, e_quo, e_rem, e_and, e_or, e_xor, e_shl, e_shr, e_eql, e_neq, e_lss, e_leq, e_gtr, e_geq, e_beq, e_bne, e_peq1, e_peq2, e_pne1, e_pne2, e_zeq1, e_zeq2, e_zne1, e_zne2, e_feq1, e_fne1, e_feq2, e_fne2, e_seq, e_sne, e_ta1, e_ta2, Nat.zero_add, Nat.add_zero, Bool.not_true, Bool.not_false]
    have := forget_none (L := L) (a := a) (fun i hi => hno i hi (by omega))
    exact hK w' lv hr (by rw [this]; exact hl) (Kp.refl _ _)
end
end Go.Proofs.Qxb6500893aDoor
