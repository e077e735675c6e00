import Derived.Test.Qxb6500896aGreatK37
import Derived.Test.Qxb6500896aGreatGk
namespace Go.Proofs.Qxb6500896aGreat
open Go.Sh Go.RowKit
set_option linter.unusedVariables false
set_option linter.unusedSimpArgs false

/-- the line of an attraction -/
def lnOf (ls : List (List Int)) (a : Int) : List Int := (ls[a.toNat]?).getD []
theorem lnOf_at {ls : List (List Int)} {i : Nat} (hi : i < ls.length) : lnOf ls (i : Nat) = ls[i] := by
  unfold lnOf
  rw [Int.toNat_natCast, List.getElem?_eq_getElem hi]; rfl
structure JoinR where
  rs : List Rec
  ls : List (List Int)
  id : Int
  place : Int
  code : Int
def tJoin (C : Cfg) (attr cls sz : Int) (rs : List Rec) (ls : List (List Int)) : JoinR :=
  if C.mx ≤ (((lnOf ls attr).length : Nat) : Int) then ⟨rs, ls, 0, 0, 10⟩
  else if (tEnroll C attr cls sz rs).2 = 0 then ⟨(tEnroll C attr cls sz rs).1, ls.set attr.toNat (lnOf ls attr ++ [((rs.length + 1 : Nat) : Int)]), ((rs.length + 1 : Nat) : Int), (((lnOf ls attr).length + 1 : Nat) : Int), 0⟩
  else ⟨rs, ls, 0, 0, (tEnroll C attr cls sz rs).2⟩
def tLeave (id : Int) (rs : List Rec) (ls : List (List Int)) : List Rec × List (List Int) × Int :=
  if (tWithdraw id rs).2 = 0 then ((tWithdraw id rs).1, tRemove id ls, 0) else (rs, ls, (tWithdraw id rs).2)
theorem tWithdraw_no {id : Int} {rs : List Rec} (h : (tWithdraw id rs).2 ≠ 0) : (tWithdraw id rs).1 = rs := by
  unfold tWithdraw at h ⊢
  split
  · split
    · rename_i h1 h2
      rw [if_pos h1, if_pos h2] at h
      exact absurd rfl h
    · rfl
  · rfl
theorem tEnroll_no {C : Cfg} {attr cls sz : Int} {rs : List Rec} (h : (tEnroll C attr cls sz rs).2 ≠ 0) : (tEnroll C attr cls sz rs).1 = rs := by
  unfold tEnroll at h ⊢
  split
  · rfl
  · rename_i h1
    rw [if_neg h1] at h
    exact absurd rfl h
section
variable {F G M M' S : Nat → Prop} {w w' w1 : World} {v lv rv : Value} {t n wb i : Nat} {rob : Option Nat} {lobs : List (Option Nat)} {C : Cfg} {rs : List Rec} {ls : List (List Int)} {K : Value → World → Prop} {id cls sz : Int}
theorem tl_ne (h : Tb M w t rob C rs) (h' : Li M w n wb lobs C ls) {b : Nat} (h1 : OwnT t rob b) (h2 : OwnL n wb lobs b) : False := by
  obtain ⟨cl, rv, r1, _, its, _, s1, _⟩ := h.ex
  obtain ⟨cl2, its2, q1, _, e1, e2, e3, e4, _⟩ := h'.ex
  have key : ∃ T l, Row w b T l ∧ (T = 228 ∨ T = 85) := by
    rcases h1 with q | q
    · exact ⟨_, _, q ▸ r1, .inl rfl⟩
    · obtain ⟨l, hl⟩ := s1.row q
      exact ⟨_, _, hl, .inr rfl⟩
  obtain ⟨T, l, hr, hT⟩ := key
  have no : ∀ T' l', Row w b T' l' → T' = 231 ∨ T' = 79 ∨ T' = 3 → False := fun T' l' hr' hT' => by
    refine row_ne hr hr' ?_ rfl
    rcases hT with rfl | rfl <;> rcases hT' with rfl | rfl | rfl <;> decide
  rcases h2 with q | q | q
  · exact no _ _ (q ▸ q1) (.inl rfl)
  · exact no _ _ (q ▸ e3) (.inr (.inl rfl))
  · rw [← e2] at q
    obtain ⟨p, hp, hb⟩ := List.mem_map.1 q
    obtain ⟨l2, hl2⟩ := (e4 p hp).1.row hb
    exact no _ _ hl2 (.inr (.inr rfl))
abbrev TLK (M : Nat → Prop) (w : World) (t : Nat) (rob : Option Nat) (n wb : Nat) (lobs : List (Option Nat)) (C : Cfg) (rs' : List Rec) (ls' : List (List Int)) (X : World → Prop) : Prop :=
  ∀ w' M' rob' lobs', Ext M M' w w' → Kp (fun b => OwnT t rob b ∨ OwnL n wb lobs b) w w' → (∀ b, OwnT t rob' b ∨ OwnL n wb lobs' b → OwnT t rob b ∨ OwnL n wb lobs b ∨ w.heap.size ≤ b) → Tb M' w' t rob' C rs' → Li M' w' n wb lobs' C ls' → X w'
theorem tl_same (h : Tb M w t rob C rs) (h' : Li M w n wb lobs C ls) {X : World → Prop} (hX : TLK M w t rob n wb lobs C rs ls X) (hk : Kp Emp w w') : X w' :=
  hX w' M rob lobs (Ext.same h.lt hk) hk.none (fun b q => q.imp (fun q => q) .inl) (h.kp' hk) (h'.kp' hk)
/-- the lines stay as they are where the table alone is written -/
theorem li_tb (h : Tb M w t rob C rs) (h' : Li M w n wb lobs C ls) (hx : Ext M M' w w') (hk : Kp (OwnT t rob) w w') : Li M' w' n wb lobs C ls :=
  h'.ext hx hk (fun b q _ => h.own q) fun b q q2 => tl_ne h h' q2 q
theorem tb_li (h : Tb M w t rob C rs) (h' : Li M w n wb lobs C ls) (hx : Ext M M' w w') (hk : Kp (OwnL n wb lobs) w w') : Tb M' w' t rob C rs :=
  h.ext hx hk (fun b q _ => h'.own q) fun b q q2 => tl_ne h h' q q2
theorem leave_ok (h : Tb M w t rob C rs) (h' : Li M w n wb lobs C ls) (hid : 0 ≤ id ∧ id ≤ 9223372036854775807)
    (hK : TLK M w t rob n wb lobs C (tLeave id rs ls).1 (tLeave id rs ls).2.1 (K (I (tLeave id rs ls).2.2))) : cl Tryz.prog 213 #[P n 0, P t 0, I id] K w := by
  unfold tLeave at hK
  apply c213
  unfold s213_p2
  refine withdraw_ok hid h fun w1 M1 rob1 hx1 hk1 ho1 tb1 => ?_
  have li1 := li_tb h h' hx1 hk1
  simp only [eqi, e_fd, e_nck, e_pkt, e_pkf, e_gdtt, e_gdtf, e_gdft, e_gdff, e_ift, e_iff, e_not, e_ln, e_lnT, e_cp, e_cvi, e_ex20, e_ex21, e_ex30, e_ex31, e_ex32, e_add, e_sub, e_mul, e_quo, e_rem, e_and, e_or, e_xor, e_shl, e_shr, e_eql, e_neq, e_lss, e_leq, e_gtr, e_geq, e_beq, e_bne, e_peq1, e_peq2, e_pne1, e_pne2, e_zeq1, e_zeq2, e_zne1, e_zne2, e_feq1, e_fne1, e_feq2, e_fne2, e_seq, e_sne, e_ta1, e_ta2, Nat.zero_add, Nat.add_zero, Bool.not_true, Bool.not_false]
  by_cases hq : (tWithdraw id rs).2 = 0
  · rw [if_pos hq] at hK
    rw [decide_eq_true hq]
    try simp only [e_fd, e_nck, e_pkt, e_pkf, e_gdtt, e_gdtf, e_gdft, e_gdff, e_ift, e_iff, e_not, e_ln, e_lnT, e_cp, e_cvi, e_ex20, e_ex21, e_ex30, e_ex31, e_ex32, e_add, e_sub, e_mul, e_quo, e_rem, e_and, e_or, e_xor, e_shl, e_shr, e_eql, e_neq, e_lss, e_leq, e_gtr, e_geq, e_beq, e_bne, e_peq1, e_peq2, e_pne1, e_pne2, e_zeq1, e_zeq2, e_zne1, e_zne2, e_feq1, e_fne1, e_feq2, e_fne2, e_seq, e_sne, e_ta1, e_ta2, Nat.zero_add, Nat.add_zero, Bool.not_true, Bool.not_false]
    refine remove_ok li1 fun w2 M2 lobs2 hx2 hk2 ho2 li2 => ?_
    unfold s213_p1
    rw [hq]
    have sz1 := hk1.size
    refine hK w2 M2 rob1 lobs2 (hx1.trans hx2) ((hk1.mono fun b _ q => .inl q).then hk2 fun b hb q => .inr q) (fun b q => ?_) (tb_li tb1 li1 hx2 hk2) li2
    rcases q with q | q | q | q
    · exact (ho1 b q).imp (fun q => q) .inr
    · exact .inr (.inl (.inl q))
    · exact .inr (.inl (.inr (.inl q)))
    · rcases ho2 b q with q | q
      · exact .inr (.inl (.inr (.inr q)))
      · exact .inr (.inr (by omega))
  · rw [if_neg hq] at hK
    rw [decide_eq_false hq]
    try simp only [e_fd, e_nck, e_pkt, e_pkf, e_gdtt, e_gdtf, e_gdft, e_gdff, e_ift, e_iff, e_not, e_ln, e_lnT, e_cp, e_cvi, e_ex20, e_ex21, e_ex30, e_ex31, e_ex32, e_add, e_sub, e_mul, e_quo, e_rem, e_and, e_or, e_xor, e_shl, e_shr, e_eql, e_neq, e_lss, e_leq, e_gtr, e_geq, e_beq, e_bne, e_peq1, e_peq2, e_pne1, e_pne2, e_zeq1, e_zeq2, e_zne1, e_zne2, e_feq1, e_fne1, e_feq2, e_fne2, e_seq, e_sne, e_ta1, e_ta2, Nat.zero_add, Nat.add_zero, Bool.not_true, Bool.not_false]
    rw [tWithdraw_no hq] at tb1
    unfold s213_p1
    exact hK w1 M1 rob1 lobs hx1 (hk1.mono fun b _ q => .inl q) (fun b q => q.elim (fun q => (ho1 b q).imp (fun q => q) .inr) fun q => .inr (.inl q)) tb1 li1
/-- a line is written in place, and gets another slice -/
theorem li_set2 {p : Lm} {kk : World → Prop} {ob : Option Nat} (h : Li M w n wb lobs C ls) (hi : i < ls.length) (hob : lobs[i]? = some ob) (hx : Ext M M' w w1) (hk : Kp (fun b => ob = some b) w w1)
    (hs : Sl iC 1 w1 3 p.blk p.val p.ids) (hM : ∀ b, p.blk = some b → M' b) (hd : ∀ b, p.blk = some b → ∀ k, k ≠ i → lobs[k]? ≠ some (some b)) (hpl : p.ids.length ≤ 16777216)
    (hK : ∀ w', Li M' w' n wb (lobs.set i p.blk) C (ls.set i p.ids) → Kp (fun b => b = wb) w1 w' → w'.heap.size = w1.heap.size → kk w') : st1 (P wb i) p.val kk w1 := by
  have hown : ∀ b, ob = some b → OwnL n wb lobs b := fun b e => .inr (.inr (by rw [← e]; exact List.mem_of_getElem? hob))
  have hMo : ∀ b, ob = some b → b < w.heap.size → M b := fun b e _ => h.own (hown b e)
  obtain ⟨cl, its, r, hc, h1, h2, h3, h4, h5⟩ := h.ex
  have hil : its.length = ls.length := by rw [← h1, List.length_map]
  have hi2 : i < its.length := by omega
  have hblk : ∀ k (hk : k < its.length), lobs[k]? = some its[k].blk := fun k hk => by rw [← h2, List.getElem?_map, List.getElem?_eq_getElem hk]; rfl
  have ei : its[i].blk = ob := by
    have := hblk i hi2
    rw [hob] at this
    exact (Option.some.inj this).symm
  have nob : ∀ {c : Nat} {T : TypeId} {l : List Value}, Row w c T l → T ≠ 3 → ¬ ob = some c := fun hr hT e => by
    obtain ⟨l2, hl2⟩ := (h4 _ (List.getElem_mem hi2)).1.row (ei.trans e)
    exact row_ne hr hl2 hT rfl
  have h3' := hk.row h3 (nob h3 (by decide))
  refine st1_r h3' (by rw [List.length_map]; omega) (sl_scal hs) fun w2 r2 hk2 hz2 => ?_
  have hx2 := Ext.same hx.lt hk2
  have hS : ∀ b, b = wb → b < w1.heap.size → M' b := fun b q _ => q ▸ hx.sub _ h.mw
  have nwb : ∀ {ob : Option Nat} {v : Value} {l : List Int}, Sl iC 1 w1 3 ob v l → ∀ b, ob = some b → ¬ b = wb := fun s b e q => by
    obtain ⟨l2, hl2⟩ := s.row e
    exact row_ne hl2 h3' (by decide) q
  rw [List.pairwise_iff_getElem] at h5
  refine hK w2 ⟨⟨cl, its.set i p, ?_, (hc.ext hx hk hMo).ext hx2 hk2 hS, by rw [List.map_set, h1], by rw [List.map_set, h2], ?_, fun q hq => ?_, ?_⟩, hx.sub _ h.mn, hx.sub _ h.mw, fun b q => by have := hx.lt b q; omega, by rw [List.length_set]; exact h.len, fun l hl => ?_⟩ hk2 hz2
  · rw [List.length_set]; exact hk2.row (hk.row r (nob r (by decide))) (row_ne r h3 (by decide))
  · rw [List.map_set]; exact r2
  · obtain ⟨k, hk0, e⟩ := List.mem_iff_getElem.1 hq
    rw [List.length_set] at hk0
    rw [List.getElem_set] at e
    split at e
    · rw [← e]; exact ⟨hs.kp hk2 (nwb hs), hM⟩
    · rename_i hne
      rw [← e]
      obtain ⟨g1, g2⟩ := h4 _ (List.getElem_mem hk0)
      have g3 := g1.kp hk fun b e1 e2 => by
        rcases Nat.lt_or_ge k i with q | q
        · exact h5 k i hk0 hi2 q b e1 (ei.trans e2)
        · exact h5 i k hi2 hk0 (by omega) b (ei.trans e2) e1
      exact ⟨g3.kp hk2 (nwb g3), fun b e => hx.sub b (g2 b e)⟩
  · rw [List.pairwise_iff_getElem]
    intro a b ha hb hab c hc1 hc2
    rw [List.length_set] at ha hb
    rw [List.getElem_set] at hc1 hc2
    split at hc1 <;> split at hc2
    · omega
    · exact hd c hc1 b (by omega) (by rw [hblk b hb, hc2])
    · exact hd c hc2 a (by omega) (by rw [hblk a ha, hc1])
    · exact h5 a b ha hb hab c hc1 hc2
  · rcases List.mem_or_eq_of_mem_set hl with q | q
    · exact h.each l q
    · rw [q]; exact hpl
/-- no two lines share a block -/
theorem li_two (h : Li M w n wb lobs C ls) {b k : Nat} (hi : lobs[i]? = some (some b)) (hk : k ≠ i) : lobs[k]? ≠ some (some b) := by
  obtain ⟨cl, its, r, hc, h1, h2, h3, h4, h5⟩ := h.ex
  rw [List.pairwise_iff_getElem] at h5
  intro e
  rw [← h2, List.getElem?_map] at hi e
  obtain ⟨hi1, ei⟩ : ∃ h : i < its.length, its[i].blk = some b := by
    by_cases q : i < its.length
    · rw [List.getElem?_eq_getElem q] at hi; exact ⟨q, Option.some.inj hi⟩
    · rw [List.getElem?_eq_none (by omega)] at hi; cases hi
  obtain ⟨hk1, ek⟩ : ∃ h : k < its.length, its[k].blk = some b := by
    by_cases q : k < its.length
    · rw [List.getElem?_eq_getElem q] at e; exact ⟨q, Option.some.inj e⟩
    · rw [List.getElem?_eq_none (by omega)] at e; cases e
  rcases Nat.lt_or_ge k i with q | q
  · exact h5 k i hk1 hi1 q b ek ei
  · exact h5 i k hi1 hk1 (by omega) b ei ek
theorem join_ok {a : Nat} (cv : CV C) (h : Tb M w t rob C rs) (h' : Li M w n wb lobs C ls) (ha : a < ls.length)
    (hK : TLK M w t rob n wb lobs C (tJoin C (a : Nat) cls sz rs ls).rs (tJoin C (a : Nat) cls sz rs ls).ls (K (.tuple #[I (tJoin C (a : Nat) cls sz rs ls).id, I (tJoin C (a : Nat) cls sz rs ls).place, I (tJoin C (a : Nat) cls sz rs ls).code]))) : cl Tryz.prog 233 #[P n 0, P t 0, I (a : Nat), I cls, I sz] K w := by
  have hll := h'.len
  have mx := cv.mx
  have hev := h'.each _ (List.getElem_mem ha)
  unfold tJoin at hK
  rw [lnOf_at ha] at hK
  apply c233R
  unfold s233R_p6 s233R_p5 s233R_p5_d
  have kd : Kp Emp w (drw w) := kp_drw
  generalize drw w = w0 at kd ⊢
  have h0 := h.kp' kd
  have l0 := h'.kp' kd
  obtain ⟨v, ob, hob, sv, hvM, lw, rw0, hlw, hlwl⟩ := li_it l0 ha
  obtain ⟨cl, its, r0, hcg, _⟩ := l0.ex
  obtain ⟨va, vt, rfl, _⟩ := hcg.ex
  try simp only [e_fd, e_nck, e_pkt, e_pkf, e_gdtt, e_gdtf, e_gdft, e_gdff, e_ift, e_iff, e_not, e_ln, e_lnT, e_cp, e_cvi, e_ex20, e_ex21, e_ex30, e_ex31, e_ex32, e_add, e_sub, e_mul, e_quo, e_rem, e_and, e_or, e_xor, e_shl, e_shr, e_eql, e_neq, e_lss, e_leq, e_gtr, e_geq, e_beq, e_bne, e_peq1, e_peq2, e_pne1, e_pne2, e_zeq1, e_zeq2, e_zne1, e_zne2, e_feq1, e_fne1, e_feq2, e_fne2, e_seq, e_sne, e_ta1, e_ta2, Nat.zero_add, Nat.add_zero, Bool.not_true, Bool.not_false]
  refine ld1_r (v := .slice (some ⟨wb, 0, none⟩) ls.length ls.length) r0 rfl ?_
  refine ixw ha ?_
  refine ld1_r rw0 hlw ?_
  have lnv : ∀ {w2 : World} (X : Value → World → Prop), X (I (ls[a].length : Nat)) w2 → lnS v X w2 := fun X hX => by
    cases ob with
    | none => obtain ⟨rfl, e⟩ := sv; rw [e] at hX; exact hX
    | some b => obtain ⟨cap, junk, rfl, _⟩ := sv; exact hX
  refine lnv _ ?_
  try simp only [e_fd, e_nck, e_pkt, e_pkf, e_gdtt, e_gdtf, e_gdft, e_gdff, e_ift, e_iff, e_not, e_ln, e_lnT, e_cp, e_cvi, e_ex20, e_ex21, e_ex30, e_ex31, e_ex32, e_add, e_sub, e_mul, e_quo, e_rem, e_and, e_or, e_xor, e_shl, e_shr, e_eql, e_neq, e_lss, e_leq, e_gtr, e_geq, e_beq, e_bne, e_peq1, e_peq2, e_pne1, e_pne2, e_zeq1, e_zeq2, e_zne1, e_zne2, e_feq1, e_fne1, e_feq2, e_fne2, e_seq, e_sne, e_ta1, e_ta2, Nat.zero_add, Nat.add_zero, Bool.not_true, Bool.not_false]
  refine ld1_r (v := I C.mx) r0 rfl ?_
  try simp only [e_fd, e_nck, e_pkt, e_pkf, e_gdtt, e_gdtf, e_gdft, e_gdff, e_ift, e_iff, e_not, e_ln, e_lnT, e_cp, e_cvi, e_ex20, e_ex21, e_ex30, e_ex31, e_ex32, e_add, e_sub, e_mul, e_quo, e_rem, e_and, e_or, e_xor, e_shl, e_shr, e_eql, e_neq, e_lss, e_leq, e_gtr, e_geq, e_beq, e_bne, e_peq1, e_peq2, e_pne1, e_pne2, e_zeq1, e_zeq2, e_zne1, e_zne2, e_feq1, e_fne1, e_feq2, e_fne2, e_seq, e_sne, e_ta1, e_ta2, Nat.zero_add, Nat.add_zero, Bool.not_true, Bool.not_false]
  unfold s233R_p4
  by_cases h1 : C.mx ≤ ((ls[a].length : Nat) : Int)
  · rw [if_pos h1] at hK
    simp only [h1, decide_true, e_fd, e_nck, e_pkt, e_pkf, e_gdtt, e_gdtf, e_gdft, e_gdff, e_ift, e_iff, e_not, e_ln, e_lnT, e_cp, e_cvi, e_ex20, e_ex21, e_ex30, e_ex31, e_ex32, e_add, e_sub, e_mul, e_quo, e_rem, e_and, e_or, e_xor, e_shl, e_shr, e_eql, e_neq, e_lss, e_leq, e_gtr, e_geq, e_beq, e_bne, e_peq1, e_peq2, e_pne1, e_pne2, e_zeq1, e_zeq2, e_zne1, e_zne2, e_feq1, e_fne1, e_feq2, e_fne2, e_seq, e_sne, e_ta1, e_ta2, Nat.zero_add, Nat.add_zero, Bool.not_true, Bool.not_false]
    exact tl_same h h' hK kd
  rw [if_neg h1] at hK
  simp only [h1, decide_false, e_fd, e_nck, e_pkt, e_pkf, e_gdtt, e_gdtf, e_gdft, e_gdff, e_ift, e_iff, e_not, e_ln, e_lnT, e_cp, e_cvi, e_ex20, e_ex21, e_ex30, e_ex31, e_ex32, e_add, e_sub, e_mul, e_quo, e_rem, e_and, e_or, e_xor, e_shl, e_shr, e_eql, e_neq, e_lss, e_leq, e_gtr, e_geq, e_beq, e_bne, e_peq1, e_peq2, e_pne1, e_pne2, e_zeq1, e_zeq2, e_zne1, e_zne2, e_feq1, e_fne1, e_feq2, e_fne2, e_seq, e_sne, e_ta1, e_ta2, Nat.zero_add, Nat.add_zero, Bool.not_true, Bool.not_false]
  refine enroll_ok cv h0 ⟨by omega, by omega⟩ fun w1 M1 rob1 hx1 hk1 ho1 tb1 => ?_
  have li1 := li_tb h0 l0 hx1 hk1
  simp only [ex2_0, ex2_1, e_fd, e_nck, e_pkt, e_pkf, e_gdtt, e_gdtf, e_gdft, e_gdff, e_ift, e_iff, e_not, e_ln, e_lnT, e_cp, e_cvi, e_ex20, e_ex21, e_ex30, e_ex31, e_ex32, e_add, e_sub, e_mul, e_quo, e_rem, e_and, e_or, e_xor, e_shl, e_shr, e_eql, e_neq, e_lss, e_leq, e_gtr, e_geq, e_beq, e_bne, e_peq1, e_peq2, e_pne1, e_pne2, e_zeq1, e_zeq2, e_zne1, e_zne2, e_feq1, e_fne1, e_feq2, e_fne2, e_seq, e_sne, e_ta1, e_ta2, Nat.zero_add, Nat.add_zero, Bool.not_true, Bool.not_false]
  have sz0 := kd.size
  have sz1 := hk1.size
  have hx01 := (Ext.same h.lt kd).trans hx1
  by_cases hq : (tEnroll C (a : Nat) cls sz rs).2 = 0
  · rw [if_pos hq] at hK
    rw [bne_f hq, if_pos hq]
    try simp only [e_fd, e_nck, e_pkt, e_pkf, e_gdtt, e_gdtf, e_gdft, e_gdff, e_ift, e_iff, e_not, e_ln, e_lnT, e_cp, e_cvi, e_ex20, e_ex21, e_ex30, e_ex31, e_ex32, e_add, e_sub, e_mul, e_quo, e_rem, e_and, e_or, e_xor, e_shl, e_shr, e_eql, e_neq, e_lss, e_leq, e_gtr, e_geq, e_beq, e_bne, e_peq1, e_peq2, e_pne1, e_pne2, e_zeq1, e_zeq2, e_zne1, e_zne2, e_feq1, e_fne1, e_feq2, e_fne2, e_seq, e_sne, e_ta1, e_ta2, Nat.zero_add, Nat.add_zero, Bool.not_true, Bool.not_false]
    generalize hidn : ((rs.length + 1 : Nat) : Int) = idn at hK ⊢
    clear lnv sv hvM rw0 hlw hlwl hob r0 hcg
    unfold s233R_p3 s233R_p3_d
    have kd1 : Kp Emp w1 (drw w1) := kp_drw
    have szd : (drw w1).heap.size = w1.heap.size := rfl
    generalize drw w1 = w2 at kd1 szd ⊢
    have li2 := li1.kp' kd1
    have tb2 := tb1.kp' kd1
    obtain ⟨v, ob, hob, sv, hvM, lw, rw2, hlw, hlwl⟩ := li_it li2 ha
    obtain ⟨cl2, r2, hcl2⟩ := li2.wrow
    have r14 : (cl2 ++ [Value.slice (some ⟨wb, 0, none⟩) ls.length ls.length])[14]? = some (.slice (some ⟨wb, 0, none⟩) ls.length ls.length) := by rw [List.getElem?_append_right (by omega), hcl2]; rfl
    have obn : ∀ b, ob = some b → b ≠ n ∧ b ≠ wb := fun b e => by
      obtain ⟨l2, hl2⟩ := sv.row e
      exact ⟨row_ne hl2 r2 (by decide), row_ne hl2 rw2 (by decide)⟩
    refine ⟨fun w' => Row w' n 231 (cl2 ++ [.slice (some ⟨wb, 0, none⟩) ls.length ls.length]) ∧ Row w' wb 79 lw, ⟨r2, rw2⟩, ?_⟩
    try simp only [e_fd, e_nck, e_pkt, e_pkf, e_gdtt, e_gdtf, e_gdft, e_gdff, e_ift, e_iff, e_not, e_ln, e_lnT, e_cp, e_cvi, e_ex20, e_ex21, e_ex30, e_ex31, e_ex32, e_add, e_sub, e_mul, e_quo, e_rem, e_and, e_or, e_xor, e_shl, e_shr, e_eql, e_neq, e_lss, e_leq, e_gtr, e_geq, e_beq, e_bne, e_peq1, e_peq2, e_pne1, e_pne2, e_zeq1, e_zeq2, e_zne1, e_zne2, e_feq1, e_fne1, e_feq2, e_fne2, e_seq, e_sne, e_ta1, e_ta2, Nat.zero_add, Nat.add_zero, Bool.not_true, Bool.not_false]
    refine ⟨_, fun w' hJ => ld1_r hJ.1 r14 ⟨rfl, rfl⟩, ?_⟩
    try simp only [e_fd, e_nck, e_pkt, e_pkf, e_gdtt, e_gdtf, e_gdft, e_gdff, e_ift, e_iff, e_not, e_ln, e_lnT, e_cp, e_cvi, e_ex20, e_ex21, e_ex30, e_ex31, e_ex32, e_add, e_sub, e_mul, e_quo, e_rem, e_and, e_or, e_xor, e_shl, e_shr, e_eql, e_neq, e_lss, e_leq, e_gtr, e_geq, e_beq, e_bne, e_peq1, e_peq2, e_pne1, e_pne2, e_zeq1, e_zeq2, e_zne1, e_zne2, e_feq1, e_fne1, e_feq2, e_fne2, e_seq, e_sne, e_ta1, e_ta2, Nat.zero_add, Nat.add_zero, Bool.not_true, Bool.not_false]
    refine ⟨_, fun w' hJ => ld1_r hJ.1 r14 ⟨rfl, rfl⟩, ?_⟩
    refine ixw ha ?_
    refine ⟨_, fun w' hJ => ld1_r hJ.2 hlw ⟨rfl, rfl⟩, ?_⟩
    refine ixw ha ?_
    refine bsq_r (l := iC idn) rfl fun w3 r3 hk3 hz3 => ⟨⟨hk3.row' r2, hk3.row' rw2⟩, ?_⟩
    have a3 : Ar iC 1 (fun _ => True) w3 (.slice (some ⟨w2.heap.size, 0, none⟩) 1 1) [idn] := Ar.row (xs := [idn]) iC_len (by rw [rows_cons, show rows iC ([] : List Int) = [] from rfl, List.append_nil]; exact r3) trivial (by simp)
    refine Sl.app3 iC_len rfl (fun _ _ => iC_sc _) (sv.kp' hk3) (a3.rds iC_len) (by simp; omega) (by simp; omega) fun w4 v4 ob4 s4 hk4 ho4 => ?_
    have k4 : Kp (fun b => ob = some b) w2 w4 := hk3.none.trans hk4
    refine ⟨⟨k4.row r2 (fun e => (obn _ e).1 rfl), k4.row rw2 (fun e => (obn _ e).2 rfl)⟩, ?_⟩
    have sz4 := k4.size
    have hx4 : Ext M1 (fun b => M1 b ∨ ob4 = some b) w2 w4 := Ext.add? li2.lt k4 (fun b e => by
      rcases ho4 with q | ⟨c, q, hc⟩
      · exact .inl (hvM b (by rw [← q]; exact e))
      · rw [q] at e; cases e; exact .inr (by omega)) (fun b e => by
      obtain ⟨l2, hl2⟩ := s4.row e
      exact hl2.lt)
    have hSo : ∀ b, ob = some b → b < w2.heap.size → M1 b := fun b e _ => hvM b e
    have ownob : ∀ b, ob = some b → OwnL n wb lobs b := fun b e => .inr (.inr (by rw [← e]; exact List.mem_of_getElem? hob))
    have tb4 := tb2.ext hx4 k4 hSo (fun b q e => tl_ne tb2 li2 q (ownob b e))
    have hd : ∀ b, ob4 = some b → ∀ k, k ≠ a → lobs[k]? ≠ some (some b) := fun b e k hk => by
      rcases ho4 with q | ⟨c, q, hc⟩
      · rw [q] at e
        rw [e] at hob
        exact li_two li2 hob hk
      · rw [q] at e; cases e
        intro e2
        have := li2.lt _ (li2.own (.inr (.inr (List.mem_of_getElem? e2))))
        omega
    refine li_set2 (p := ⟨ls[a] ++ [idn], v4, ob4⟩) li2 ha hob hx4 k4 s4 (fun b e => .inr e) hd (by simp; omega) fun w5 li5 hk5 hz5 => ?_
    simp only at li5
    have tb5 := tb4.ext (Ext.same hx4.lt hk5) hk5 (fun b q _ => q ▸ .inl li2.mw) (fun b q e => tl_ne tb2 li2 q (.inr (.inl e)))
    have ha5 : a < (ls.set a (ls[a] ++ [idn])).length := by rw [List.length_set]; exact ha
    have hg5 : (ls.set a (ls[a] ++ [idn]))[a]'ha5 = ls[a] ++ [idn] := List.getElem_set_self _
    unfold s233R_p2 s233R_p2_d
    have kd5 : Kp Emp w5 (drw w5) := kp_drw
    generalize drw w5 = w6 at kd5 ⊢
    have li6 := li5.kp' kd5
    have tb6 := tb5.kp' kd5
    obtain ⟨v6, ob6, hob6, sv6, hvM6, lw6, rw6, hlw6, hlwl6⟩ := li_it li6 ha5
    rw [hg5] at sv6
    obtain ⟨cl6, r6, hcl6⟩ := li6.wrow
    rw [List.length_set] at r6
    have r146 : (cl6 ++ [Value.slice (some ⟨wb, 0, none⟩) ls.length ls.length])[14]? = some (.slice (some ⟨wb, 0, none⟩) ls.length ls.length) := by rw [List.getElem?_append_right (by omega), hcl6]; rfl
    refine ⟨fun w' => Row w' n 231 (cl6 ++ [.slice (some ⟨wb, 0, none⟩) ls.length ls.length]) ∧ Row w' wb 79 lw6, ⟨r6, rw6⟩, ?_⟩
    try simp only [e_fd, e_nck, e_pkt, e_pkf, e_gdtt, e_gdtf, e_gdft, e_gdff, e_ift, e_iff, e_not, e_ln, e_lnT, e_cp, e_cvi, e_ex20, e_ex21, e_ex30, e_ex31, e_ex32, e_add, e_sub, e_mul, e_quo, e_rem, e_and, e_or, e_xor, e_shl, e_shr, e_eql, e_neq, e_lss, e_leq, e_gtr, e_geq, e_beq, e_bne, e_peq1, e_peq2, e_pne1, e_pne2, e_zeq1, e_zeq2, e_zne1, e_zne2, e_feq1, e_fne1, e_feq2, e_fne2, e_seq, e_sne, e_ta1, e_ta2, Nat.zero_add, Nat.add_zero, Bool.not_true, Bool.not_false]
    refine ⟨_, fun w' hJ => ld1_r hJ.1 r146 ⟨rfl, rfl⟩, ?_⟩
    refine ixw ha ?_
    refine ⟨_, fun w' hJ => ld1_r hJ.2 hlw6 ⟨rfl, rfl⟩, ?_⟩
    have lnv6 : ∀ {w2 : World} (X : Value → World → Prop), X (I ((ls[a] ++ [idn]).length : Nat)) w2 → lnS v6 X w2 := fun X hX => by
      cases ob6 with
      | none => obtain ⟨rfl, e⟩ := sv6; rw [e] at hX; exact hX
      | some b => obtain ⟨cap, junk, rfl, _⟩ := sv6; exact hX
    refine lnv6 _ ⟨⟨r6, rw6⟩, ⟨r6, rw6⟩, ?_⟩
    unfold s233R_p1
    rw [List.length_append, List.length_singleton]
    have sz5 := kd1.size
    have kk : Kp (OwnL n wb lobs) w2 w6 := ((k4.mono fun b _ q => ownob b q).trans (hk5.mono fun b _ q => .inr (.inl q))).trans kd5.none
    refine hK w6 _ rob1 (lobs.set a ob4) (((hx01.trans (Ext.same tb1.lt kd1)).trans hx4).trans ((Ext.same hx4.lt hk5).trans (Ext.same tb5.lt kd5))) ?_ (fun b q => ?_) tb6 li6
    · exact (((kd.none.trans hk1).mono fun b _ q => Or.inl q).trans kd1.none).then kk fun b _ q => .inr q
    · rcases q with q | q | q | q
      · exact (ho1 b q).imp (fun q => q) fun q => .inr (by omega)
      · exact .inr (.inl (.inl q))
      · exact .inr (.inl (.inr (.inl q)))
      · rcases List.mem_or_eq_of_mem_set q with q | q
        · exact .inr (.inl (.inr (.inr q)))
        · rcases ho4 with e | ⟨c, e, hc⟩
          · exact .inr (.inl (.inr (.inr (by rw [q, e]; exact List.mem_of_getElem? hob))))
          · rw [e] at q; cases q; exact .inr (.inr (by omega))
  · rw [if_neg hq] at hK
    rw [bne_t hq, if_neg hq]
    try simp only [e_fd, e_nck, e_pkt, e_pkf, e_gdtt, e_gdtf, e_gdft, e_gdff, e_ift, e_iff, e_not, e_ln, e_lnT, e_cp, e_cvi, e_ex20, e_ex21, e_ex30, e_ex31, e_ex32, e_add, e_sub, e_mul, e_quo, e_rem, e_and, e_or, e_xor, e_shl, e_shr, e_eql, e_neq, e_lss, e_leq, e_gtr, e_geq, e_beq, e_bne, e_peq1, e_peq2, e_pne1, e_pne2, e_zeq1, e_zeq2, e_zne1, e_zne2, e_feq1, e_fne1, e_feq2, e_fne2, e_seq, e_sne, e_ta1, e_ta2, Nat.zero_add, Nat.add_zero, Bool.not_true, Bool.not_false]
    rw [tEnroll_no hq] at tb1
    exact hK w1 M1 rob1 lobs hx01 ((kd.none.trans hk1).mono fun b _ q => .inl q) (fun b q => q.elim (fun q => (ho1 b q).imp (fun q => q) fun q => .inr (by omega)) fun q => .inr (.inl q)) tb1 li1
end
end Go.Proofs.Qxb6500896aGreat
