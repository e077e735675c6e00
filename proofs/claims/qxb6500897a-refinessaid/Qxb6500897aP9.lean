import Derived.Test.Qxb6500897aP8
namespace Go.Proofs.Qxb6500897a
open Go.Sh Go.RowKit
set_option linter.unusedVariables false
set_option linter.unusedSimpArgs false

theorem Tabs.kp {w w' : World} {d tb : Nat} {H M now : Int} {ts : List Tab} (h : Tabs w d tb H M now ts) (hk : Kp (fun _ => False) w w') : Tabs w' d tb H M now ts :=
  ⟨hk.row' h.top, hk.row' h.arr, fun t ht => hk.row' (h.occ t ht), fun t ht => hk.row' (h.adm t ht), h.nd⟩

theorem blks_at {ts : List Tab} {a : Nat} (ha : a < ts.length) : ts[a].ob ∈ blks ts ∧ ts[a].ab ∈ blks ts :=
  ⟨mem_blks.2 ⟨ts[a], List.getElem_mem ha, .inl rfl⟩, mem_blks.2 ⟨ts[a], List.getElem_mem ha, .inr rfl⟩⟩

theorem blks_split {ts : List Tab} {a : Nat} (ha : a < ts.length) : blks ts = blks (ts.take a) ++ ([ts[a].ob, ts[a].ab] ++ blks (ts.drop (a + 1))) := by
  have e : ts = ts.take a ++ (ts[a] :: ts.drop (a + 1)) := by rw [List.getElem_cons_drop, List.take_append_drop]
  have e2 : blks (ts.take a ++ (ts[a] :: ts.drop (a + 1))) = blks (ts.take a) ++ ([ts[a].ob, ts[a].ab] ++ blks (ts.drop (a + 1))) := by
    rw [blks_append]; unfold blks; rw [List.flatMap_cons]
  rw [← e2, ← e]

theorem Tabs.at {w : World} {d tb : Nat} {H M now : Int} {ts : List Tab} (h : Tabs w d tb H M now ts) {a : Nat} (ha : a < ts.length) : TabAt w tb (a * 9) ts[a] := by
  have hm := List.getElem_mem ha
  have nd1 := List.nodup_cons.1 h.nd
  have nd2 := List.nodup_cons.1 nd1.2
  have hb := blks_at ha
  refine ⟨⟨_, h.arr, fun j hj => rows_get Tab.cells_length ts a ha j hj⟩, h.occ _ hm, h.adm _ hm, fun e => nd2.1 (e ▸ hb.1), fun e => nd2.1 (e ▸ hb.2), ?_⟩
  intro e
  have := nd2.2
  rw [blks_split ha, List.nodup_append] at this
  have := this.2.1
  rw [List.nodup_append] at this
  have := this.1
  simp at this
  exact this e

theorem blks_set {ts : List Tab} {a : Nat} {t' : Tab} (ha : a < ts.length) (h1 : t'.ob = ts[a].ob) (h2 : t'.ab = ts[a].ab) : blks (ts.set a t') = blks ts := by
  rw [blks_split ha, blks_split (ts := ts.set a t') (a := a) (by simpa using ha)]
  rw [List.getElem_set_self, List.take_set_of_le (Nat.le_refl _), List.drop_set_of_lt (Nat.lt_succ_self _), h1, h2]

/-- two tables of a row share no memory -/
theorem Tabs.apart {w : World} {d tb : Nat} {H M now : Int} {ts : List Tab} (h : Tabs w d tb H M now ts) {a b : Nat} (ha : a < ts.length) (hb : b < ts.length) (hne : a ≠ b) :
    ∀ x, x = ts[b].ob ∨ x = ts[b].ab → ¬ (x = ts[a].ob ∨ x = ts[a].ab) := by
  intro x hx hx'
  have nd2 := (List.nodup_cons.1 (List.nodup_cons.1 h.nd).2).2
  have hx2 : x ∈ [ts[b].ob, ts[b].ab] := by simpa using hx
  have hmem : ∀ l : List Tab, ts[a] ∈ l → x ∈ blks l := fun l hl => mem_blks.2 ⟨ts[a], hl, hx'⟩
  rw [blks_split hb, List.nodup_append] at nd2
  obtain ⟨_, h2, h3⟩ := nd2
  rw [List.nodup_append] at h2
  rcases Nat.lt_or_gt_of_ne hne with hlt | hgt
  · have : ts[a] ∈ ts.take b := by
      rw [List.mem_take_iff_getElem]
      exact ⟨a, by omega, rfl⟩
    exact h3 x (hmem _ this) x (List.mem_append_left _ hx2) rfl
  · have : ts[a] ∈ ts.drop (b + 1) := by
      rw [List.mem_drop_iff_getElem]
      exact ⟨a - (b + 1), by omega, by congr 1; omega⟩
    exact h2.2.2 x hx2 x (hmem _ this) rfl

theorem Tabs.upd {w w' : World} {d tb : Nat} {H M now : Int} {ts : List Tab} (h : Tabs w d tb H M now ts) {a : Nat} (ha : a < ts.length) {t' : Tab} (hc : t'.cells = ts[a].cells)
    (h1 : t'.ob = ts[a].ob) (h2 : t'.ab = ts[a].ab) (ht : TabAt w' tb (a * 9) t') (hk : Kp (TB ts[a]) w w') : Tabs w' d tb H M now (ts.set a t') := by
  have nd1 := List.nodup_cons.1 h.nd
  have nd2 := List.nodup_cons.1 nd1.2
  have hb := blks_at ha
  have er : rows Tab.cells (ts.set a t') = rows Tab.cells ts := by
    rw [rows_set_list ts a ha t', rows_split ts a ha, hc]
  have hoth : ∀ t ∈ ts.set a t', t = t' ∨ ∃ b, ∃ hb : b < ts.length, b ≠ a ∧ t = ts[b] := by
    intro t htm
    obtain ⟨b, hb, e⟩ := List.getElem_of_mem htm
    by_cases hab : a = b
    · subst hab; left; rw [← e]; simp
    · right
      refine ⟨b, by simpa using hb, fun h => hab h.symm, ?_⟩
      rw [← e, List.getElem_set_ne hab]
  refine ⟨?_, ?_, ?_, ?_, ?_⟩
  · rw [List.length_set]
    refine hk.row h.top ?_
    intro e
    have : d ∈ blks ts := by
      rcases e with e | e
      · rw [e]; exact hb.1
      · rw [e]; exact hb.2
    exact nd1.1 (List.mem_cons_of_mem _ this)
  · rw [er]
    refine hk.row h.arr ?_
    intro e
    have : tb ∈ blks ts := by
      rcases e with e | e
      · rw [e]; exact hb.1
      · rw [e]; exact hb.2
    exact nd2.1 this
  · intro t htm
    rcases hoth t htm with rfl | ⟨b, hb, hne, rfl⟩
    · exact ht.occ
    · exact hk.row (h.occ _ (List.getElem_mem hb)) (h.apart ha hb (fun e => hne e.symm) _ (.inl rfl))
  · intro t htm
    rcases hoth t htm with rfl | ⟨b, hb, hne, rfl⟩
    · exact ht.adm
    · exact hk.row (h.adm _ (List.getElem_mem hb)) (h.apart ha hb (fun e => hne e.symm) _ (.inr rfl))
  · rw [blks_set ha h1 h2]; exact h.nd

/-- an error that is nil, or leads to its code -/
def ErrV (w : World) (v : Value) (code : Int) : Prop :=
  (code = 0 ∧ v = .nilIface) ∨ (code ≠ 0 ∧ ∃ b r, v = .iface 108 (.pointer (some ⟨b, 0, none⟩)) ∧ Row w b 111 (I code :: r))

theorem codeOf_ok {w : World} {v : Value} {code : Int} {K : Value → World → Prop} (h : ErrV w v code) (hK : K (I code) w) : cl Try.prog 32 #[v] K w := by
  rcases h with ⟨rfl, rfl⟩ | ⟨_, b, r, rfl, h⟩
  · exact codeOf_nil hK
  · exact codeOf_err h hK

theorem errV_neq {w w' : World} {v : Value} {code : Int} {K : Value → World → Prop} (h : ErrV w v code) (hK : K (.bool (code != 0)) w') : boF true .neq v .nilIface K w' := by
  rcases h with ⟨rfl, rfl⟩ | ⟨hne, b, r, rfl, h⟩
  · simp only [e_fne1]; exact hK
  · simp only [e_fne2]
    have : (code != 0) = true := by simpa using hne
    rw [this] at hK; exact hK
theorem errV_eql {w w' : World} {v : Value} {code : Int} {K : Value → World → Prop} (h : ErrV w v code) (hK : K (.bool (code == 0)) w') : boF true .eql v .nilIface K w' := by
  rcases h with ⟨rfl, rfl⟩ | ⟨hne, b, r, rfl, h⟩
  · simp only [e_feq1]; exact hK
  · simp only [e_feq2]
    have : (code == 0) = false := by simpa using hne
    rw [this] at hK; exact hK

theorem result_ok {w : World} {code a s c n : Int} {nm : ByteArray} {K : Value → World → Prop} (hK : ∀ w' v, ErrV w' v code → Kp (fun _ => False) w w' → K v w') :
    cl Try.prog 63 #[I code, .string nm, I a, I s, I c, I n] K w := by
  apply c63
  unfold s63_p1
  simp only [e_fd, e_nck, e_pkt, e_pkf, e_gdtt, e_gdtf, e_gdft, e_gdff, e_ift, e_iff, e_not, e_ln, e_lnT, e_cp, e_cvi, e_ex20, e_ex21, e_ex30, e_ex31, e_ex32, e_add, e_sub, e_mul, e_quo, e_rem, e_and, e_or, e_xor, e_shl, e_shr, e_eql, e_neq, e_lss, e_leq, e_gtr, e_geq, e_beq, e_bne, e_peq1, e_peq2, e_pne1, e_pne2, e_zeq1, e_zeq2, e_zne1, e_zne2, e_feq1, e_fne1, e_feq2, e_fne2, e_seq, e_sne, e_ta1, e_ta2, Nat.zero_add, Nat.add_zero, Bool.not_true, Bool.not_false]
  by_cases h0 : code = 0
  · subst h0
    simp only [show ((0 : Int) == 0) = true from rfl, e_fd, e_nck, e_pkt, e_pkf, e_gdtt, e_gdtf, e_gdft, e_gdff, e_ift, e_iff, e_not, e_ln, e_lnT, e_cp, e_cvi, e_ex20, e_ex21, e_ex30, e_ex31, e_ex32, e_add, e_sub, e_mul, e_quo, e_rem, e_and, e_or, e_xor, e_shl, e_shr, e_eql, e_neq, e_lss, e_leq, e_gtr, e_geq, e_beq, e_bne, e_peq1, e_peq2, e_pne1, e_pne2, e_zeq1, e_zeq2, e_zne1, e_zne2, e_feq1, e_fne1, e_feq2, e_fne2, e_seq, e_sne, e_ta1, e_ta2, Nat.zero_add, Nat.add_zero, Bool.not_true, Bool.not_false]
    exact hK w _ (.inl ⟨rfl, rfl⟩) (Kp.refl _ _)
  · have : (code == 0) = false := by simpa using h0
    simp only [this, e_fd, e_nck, e_pkt, e_pkf, e_gdtt, e_gdtf, e_gdft, e_gdff, e_ift, e_iff, e_not, e_ln, e_lnT, e_cp, e_cvi, e_ex20, e_ex21, e_ex30, e_ex31, e_ex32, e_add, e_sub, e_mul, e_quo, e_rem, e_and, e_or, e_xor, e_shl, e_shr, e_eql, e_neq, e_lss, e_leq, e_gtr, e_geq, e_beq, e_bne, e_peq1, e_peq2, e_pne1, e_pne2, e_zeq1, e_zeq2, e_zne1, e_zne2, e_feq1, e_fne1, e_feq2, e_fne2, e_seq, e_sne, e_ta1, e_ta2, Nat.zero_add, Nat.add_zero, Bool.not_true, Bool.not_false]
    refine bdq_r (l := [I code, .string nm, I a, I s, I c, I n]) rfl ?_
    refine nw_r fun w1 r1 hb1 hz1 => ?_
    exact hK w1 _ (.inr ⟨h0, _, _, rfl, r1⟩) hb1

/-- what check answers -/
def chk (H now : Int) (ts : List Tab) (attr slot cls n : Int) (r : Nat) : Int :=
  if attr < 0 ∨ (ts.length : Int) ≤ attr then 1
  else if cls < 0 ∨ 3 ≤ cls then 2
  else if n < 1 then 3
  else if slot < now - (if r = 0 then 0 else ((ts[attr.toNat]?.map (·.att.dwell)).getD 0 - 1)) ∨ now + H - 1 + (if r = 2 then ((ts[attr.toNat]?.map (·.att.dwell)).getD 0 - 1) else 0) < slot then 4
  else 0

theorem chk_ok {H now : Int} {ts : List Tab} {attr slot cls n : Int} {r : Nat} (h : chk H now ts attr slot cls n r = 0) :
    0 ≤ attr ∧ attr.toNat < ts.length ∧ 0 ≤ cls ∧ cls < 3 ∧ 1 ≤ n := by
  unfold chk at h
  split at h
  · omega
  split at h
  · omega
  split at h
  · omega
  omega

theorem check_ok {w : World} {d tb : Nat} {H M now : Int} {ts : List Tab} {attr slot cls n : Int} {r : Nat} {K : Value → World → Prop} (h : Tabs w d tb H M now ts) (hok : ∀ t ∈ ts, TOk t)
    (b1 : 0 ≤ now) (b2 : now ≤ 1099511627776) (b3 : 0 ≤ H) (b4 : H ≤ 1048576) (hr : r ≤ 2)
    (h0 : chk H now ts attr slot cls n r = 0 → ∀ w', Kp (fun _ => False) w w' → K (.tuple #[.pointer (some ⟨tb, attr.toNat * 9, none⟩), I 0]) w')
    (h1 : chk H now ts attr slot cls n r ≠ 0 → ∀ w', Kp (fun _ => False) w w' → K (.tuple #[.pointer none, I (chk H now ts attr slot cls n r)]) w') :
    cl Try.prog 62 #[.pointer (some ⟨d, 0, none⟩), I attr, I slot, I cls, I n, I r] K w := by
  apply c62
  unfold s62_p5
  simp only [e_fd, e_nck, e_pkt, e_pkf, e_gdtt, e_gdtf, e_gdft, e_gdff, e_ift, e_iff, e_not, e_ln, e_lnT, e_cp, e_cvi, e_ex20, e_ex21, e_ex30, e_ex31, e_ex32, e_add, e_sub, e_mul, e_quo, e_rem, e_and, e_or, e_xor, e_shl, e_shr, e_eql, e_neq, e_lss, e_leq, e_gtr, e_geq, e_beq, e_bne, e_peq1, e_peq2, e_pne1, e_pne2, e_zeq1, e_zeq2, e_zne1, e_zne2, e_feq1, e_fne1, e_feq2, e_fne2, e_seq, e_sne, e_ta1, e_ta2, Nat.zero_add, Nat.add_zero, Bool.not_true, Bool.not_false]
  unfold chk at h0 h1
  by_cases a1 : attr < 0
  · rw [if_pos (.inl a1)] at h1
    simp only [a1, decide_true, e_fd, e_nck, e_pkt, e_pkf, e_gdtt, e_gdtf, e_gdft, e_gdff, e_ift, e_iff, e_not, e_ln, e_lnT, e_cp, e_cvi, e_ex20, e_ex21, e_ex30, e_ex31, e_ex32, e_add, e_sub, e_mul, e_quo, e_rem, e_and, e_or, e_xor, e_shl, e_shr, e_eql, e_neq, e_lss, e_leq, e_gtr, e_geq, e_beq, e_bne, e_peq1, e_peq2, e_pne1, e_pne2, e_zeq1, e_zeq2, e_zne1, e_zne2, e_feq1, e_fne1, e_feq2, e_fne2, e_seq, e_sne, e_ta1, e_ta2, Nat.zero_add, Nat.add_zero, Bool.not_true, Bool.not_false]
    exact h1 (by omega) w (Kp.refl _ _)
  simp only [a1, decide_false, e_fd, e_nck, e_pkt, e_pkf, e_gdtt, e_gdtf, e_gdft, e_gdff, e_ift, e_iff, e_not, e_ln, e_lnT, e_cp, e_cvi, e_ex20, e_ex21, e_ex30, e_ex31, e_ex32, e_add, e_sub, e_mul, e_quo, e_rem, e_and, e_or, e_xor, e_shl, e_shr, e_eql, e_neq, e_lss, e_leq, e_gtr, e_geq, e_beq, e_bne, e_peq1, e_peq2, e_pne1, e_pne2, e_zeq1, e_zeq2, e_zne1, e_zne2, e_feq1, e_fne1, e_feq2, e_fne2, e_seq, e_sne, e_ta1, e_ta2, Nat.zero_add, Nat.add_zero, Bool.not_true, Bool.not_false]
  refine ld1_r h.top rfl ?_
  simp only [e_fd, e_nck, e_pkt, e_pkf, e_gdtt, e_gdtf, e_gdft, e_gdff, e_ift, e_iff, e_not, e_ln, e_lnT, e_cp, e_cvi, e_ex20, e_ex21, e_ex30, e_ex31, e_ex32, e_add, e_sub, e_mul, e_quo, e_rem, e_and, e_or, e_xor, e_shl, e_shr, e_eql, e_neq, e_lss, e_leq, e_gtr, e_geq, e_beq, e_bne, e_peq1, e_peq2, e_pne1, e_pne2, e_zeq1, e_zeq2, e_zne1, e_zne2, e_feq1, e_fne1, e_feq2, e_fne2, e_seq, e_sne, e_ta1, e_ta2, Nat.zero_add, Nat.add_zero, Bool.not_true, Bool.not_false]
  by_cases a2 : (ts.length : Int) ≤ attr
  · rw [if_pos (.inr a2)] at h1
    simp only [a2, decide_true, e_fd, e_nck, e_pkt, e_pkf, e_gdtt, e_gdtf, e_gdft, e_gdff, e_ift, e_iff, e_not, e_ln, e_lnT, e_cp, e_cvi, e_ex20, e_ex21, e_ex30, e_ex31, e_ex32, e_add, e_sub, e_mul, e_quo, e_rem, e_and, e_or, e_xor, e_shl, e_shr, e_eql, e_neq, e_lss, e_leq, e_gtr, e_geq, e_beq, e_bne, e_peq1, e_peq2, e_pne1, e_pne2, e_zeq1, e_zeq2, e_zne1, e_zne2, e_feq1, e_fne1, e_feq2, e_fne2, e_seq, e_sne, e_ta1, e_ta2, Nat.zero_add, Nat.add_zero, Bool.not_true, Bool.not_false]
    exact h1 (by omega) w (Kp.refl _ _)
  rw [if_neg (by omega)] at h0 h1
  simp only [a2, decide_false, e_fd, e_nck, e_pkt, e_pkf, e_gdtt, e_gdtf, e_gdft, e_gdff, e_ift, e_iff, e_not, e_ln, e_lnT, e_cp, e_cvi, e_ex20, e_ex21, e_ex30, e_ex31, e_ex32, e_add, e_sub, e_mul, e_quo, e_rem, e_and, e_or, e_xor, e_shl, e_shr, e_eql, e_neq, e_lss, e_leq, e_gtr, e_geq, e_beq, e_bne, e_peq1, e_peq2, e_pne1, e_pne2, e_zeq1, e_zeq2, e_zne1, e_zne2, e_feq1, e_fne1, e_feq2, e_fne2, e_seq, e_sne, e_ta1, e_ta2, Nat.zero_add, Nat.add_zero, Bool.not_true, Bool.not_false]
  by_cases a3 : cls < 0
  · rw [if_pos (.inl a3)] at h1
    simp only [a3, decide_true, e_fd, e_nck, e_pkt, e_pkf, e_gdtt, e_gdtf, e_gdft, e_gdff, e_ift, e_iff, e_not, e_ln, e_lnT, e_cp, e_cvi, e_ex20, e_ex21, e_ex30, e_ex31, e_ex32, e_add, e_sub, e_mul, e_quo, e_rem, e_and, e_or, e_xor, e_shl, e_shr, e_eql, e_neq, e_lss, e_leq, e_gtr, e_geq, e_beq, e_bne, e_peq1, e_peq2, e_pne1, e_pne2, e_zeq1, e_zeq2, e_zne1, e_zne2, e_feq1, e_fne1, e_feq2, e_fne2, e_seq, e_sne, e_ta1, e_ta2, Nat.zero_add, Nat.add_zero, Bool.not_true, Bool.not_false]
    exact h1 (by omega) w (Kp.refl _ _)
  simp only [a3, decide_false, e_fd, e_nck, e_pkt, e_pkf, e_gdtt, e_gdtf, e_gdft, e_gdff, e_ift, e_iff, e_not, e_ln, e_lnT, e_cp, e_cvi, e_ex20, e_ex21, e_ex30, e_ex31, e_ex32, e_add, e_sub, e_mul, e_quo, e_rem, e_and, e_or, e_xor, e_shl, e_shr, e_eql, e_neq, e_lss, e_leq, e_gtr, e_geq, e_beq, e_bne, e_peq1, e_peq2, e_pne1, e_pne2, e_zeq1, e_zeq2, e_zne1, e_zne2, e_feq1, e_fne1, e_feq2, e_fne2, e_seq, e_sne, e_ta1, e_ta2, Nat.zero_add, Nat.add_zero, Bool.not_true, Bool.not_false]
  by_cases a4 : 3 ≤ cls
  · rw [if_pos (.inr a4)] at h1
    simp only [a4, decide_true, e_fd, e_nck, e_pkt, e_pkf, e_gdtt, e_gdtf, e_gdft, e_gdff, e_ift, e_iff, e_not, e_ln, e_lnT, e_cp, e_cvi, e_ex20, e_ex21, e_ex30, e_ex31, e_ex32, e_add, e_sub, e_mul, e_quo, e_rem, e_and, e_or, e_xor, e_shl, e_shr, e_eql, e_neq, e_lss, e_leq, e_gtr, e_geq, e_beq, e_bne, e_peq1, e_peq2, e_pne1, e_pne2, e_zeq1, e_zeq2, e_zne1, e_zne2, e_feq1, e_fne1, e_feq2, e_fne2, e_seq, e_sne, e_ta1, e_ta2, Nat.zero_add, Nat.add_zero, Bool.not_true, Bool.not_false]
    exact h1 (by omega) w (Kp.refl _ _)
  rw [if_neg (by omega)] at h0 h1
  simp only [a4, decide_false, e_fd, e_nck, e_pkt, e_pkf, e_gdtt, e_gdtf, e_gdft, e_gdff, e_ift, e_iff, e_not, e_ln, e_lnT, e_cp, e_cvi, e_ex20, e_ex21, e_ex30, e_ex31, e_ex32, e_add, e_sub, e_mul, e_quo, e_rem, e_and, e_or, e_xor, e_shl, e_shr, e_eql, e_neq, e_lss, e_leq, e_gtr, e_geq, e_beq, e_bne, e_peq1, e_peq2, e_pne1, e_pne2, e_zeq1, e_zeq2, e_zne1, e_zne2, e_feq1, e_fne1, e_feq2, e_fne2, e_seq, e_sne, e_ta1, e_ta2, Nat.zero_add, Nat.add_zero, Bool.not_true, Bool.not_false]
  by_cases a5 : n < 1
  · rw [if_pos a5] at h1
    simp only [a5, decide_true, e_fd, e_nck, e_pkt, e_pkf, e_gdtt, e_gdtf, e_gdft, e_gdff, e_ift, e_iff, e_not, e_ln, e_lnT, e_cp, e_cvi, e_ex20, e_ex21, e_ex30, e_ex31, e_ex32, e_add, e_sub, e_mul, e_quo, e_rem, e_and, e_or, e_xor, e_shl, e_shr, e_eql, e_neq, e_lss, e_leq, e_gtr, e_geq, e_beq, e_bne, e_peq1, e_peq2, e_pne1, e_pne2, e_zeq1, e_zeq2, e_zne1, e_zne2, e_feq1, e_fne1, e_feq2, e_fne2, e_seq, e_sne, e_ta1, e_ta2, Nat.zero_add, Nat.add_zero, Bool.not_true, Bool.not_false]
    exact h1 (by omega) w (Kp.refl _ _)
  rw [if_neg a5] at h0 h1
  simp only [a5, decide_false, e_fd, e_nck, e_pkt, e_pkf, e_gdtt, e_gdtf, e_gdft, e_gdff, e_ift, e_iff, e_not, e_ln, e_lnT, e_cp, e_cvi, e_ex20, e_ex21, e_ex30, e_ex31, e_ex32, e_add, e_sub, e_mul, e_quo, e_rem, e_and, e_or, e_xor, e_shl, e_shr, e_eql, e_neq, e_lss, e_leq, e_gtr, e_geq, e_beq, e_bne, e_peq1, e_peq2, e_pne1, e_pne2, e_zeq1, e_zeq2, e_zne1, e_zne2, e_feq1, e_fne1, e_feq2, e_fne2, e_seq, e_sne, e_ta1, e_ta2, Nat.zero_add, Nat.add_zero, Bool.not_true, Bool.not_false]
  refine ld1_r h.top rfl ?_
  have ea : attr = ((attr.toNat : Nat) : Int) := by omega
  generalize attr.toNat = a at *
  subst ea
  have ha : a < ts.length := by omega
  refine ixs_r ha ?_
  unfold s62_p4 s62_p4_d
  simp only [e_fd, e_nck, e_pkt, e_pkf, e_gdtt, e_gdtf, e_gdft, e_gdff, e_ift, e_iff, e_not, e_ln, e_lnT, e_cp, e_cvi, e_ex20, e_ex21, e_ex30, e_ex31, e_ex32, e_add, e_sub, e_mul, e_quo, e_rem, e_and, e_or, e_xor, e_shl, e_shr, e_eql, e_neq, e_lss, e_leq, e_gtr, e_geq, e_beq, e_bne, e_peq1, e_peq2, e_pne1, e_pne2, e_zeq1, e_zeq2, e_zne1, e_zne2, e_feq1, e_fne1, e_feq2, e_fne2, e_seq, e_sne, e_ta1, e_ta2, Nat.zero_add, Nat.add_zero, Bool.not_true, Bool.not_false]
  refine ld1_r h.top.drw rfl ?_
  refine ld1_r h.top.drw rfl ?_
  refine ld1_r h.top.drw rfl ?_
  simp only [e_fd, e_nck, e_pkt, e_pkf, e_gdtt, e_gdtf, e_gdft, e_gdff, e_ift, e_iff, e_not, e_ln, e_lnT, e_cp, e_cvi, e_ex20, e_ex21, e_ex30, e_ex31, e_ex32, e_add, e_sub, e_mul, e_quo, e_rem, e_and, e_or, e_xor, e_shl, e_shr, e_eql, e_neq, e_lss, e_leq, e_gtr, e_geq, e_beq, e_bne, e_peq1, e_peq2, e_pne1, e_pne2, e_zeq1, e_zeq2, e_zne1, e_zne2, e_feq1, e_fne1, e_feq2, e_fne2, e_seq, e_sne, e_ta1, e_ta2, Nat.zero_add, Nat.add_zero, Bool.not_true, Bool.not_false]
  rw [wrap64_id (n := now + H) (by omega) (by omega), wrap64_id (by omega) (by omega)]
  have hat := (h.kp kp_drw).at ha
  have htk := hok _ (List.getElem_mem ha)
  have d1 := htk.d1
  have d2 := htk.d2
  have edw : (ts[a]?.map (·.att.dwell)).getD 0 = ts[a].att.dwell := by rw [List.getElem?_eq_getElem ha]; rfl
  rw [edw] at h0 h1
  have fin : ∀ first last : Int, first = now - (if r = 0 then 0 else ts[a].att.dwell - 1) → last = now + H - 1 + (if r = 2 then ts[a].att.dwell - 1 else 0) →
      s62_p1 K (I slot) (.pointer (some ⟨tb, a * 9, none⟩)) (I first) (I last) (drw w) := by
    intro first last e1 e2
    rw [← e1, ← e2] at h0 h1
    unfold s62_p1
    simp only [e_fd, e_nck, e_pkt, e_pkf, e_gdtt, e_gdtf, e_gdft, e_gdff, e_ift, e_iff, e_not, e_ln, e_lnT, e_cp, e_cvi, e_ex20, e_ex21, e_ex30, e_ex31, e_ex32, e_add, e_sub, e_mul, e_quo, e_rem, e_and, e_or, e_xor, e_shl, e_shr, e_eql, e_neq, e_lss, e_leq, e_gtr, e_geq, e_beq, e_bne, e_peq1, e_peq2, e_pne1, e_pne2, e_zeq1, e_zeq2, e_zne1, e_zne2, e_feq1, e_fne1, e_feq2, e_fne2, e_seq, e_sne, e_ta1, e_ta2, Nat.zero_add, Nat.add_zero, Bool.not_true, Bool.not_false]
    by_cases q1 : slot < first
    · rw [if_pos (.inl q1)] at h1
      simp only [q1, decide_true, e_fd, e_nck, e_pkt, e_pkf, e_gdtt, e_gdtf, e_gdft, e_gdff, e_ift, e_iff, e_not, e_ln, e_lnT, e_cp, e_cvi, e_ex20, e_ex21, e_ex30, e_ex31, e_ex32, e_add, e_sub, e_mul, e_quo, e_rem, e_and, e_or, e_xor, e_shl, e_shr, e_eql, e_neq, e_lss, e_leq, e_gtr, e_geq, e_beq, e_bne, e_peq1, e_peq2, e_pne1, e_pne2, e_zeq1, e_zeq2, e_zne1, e_zne2, e_feq1, e_fne1, e_feq2, e_fne2, e_seq, e_sne, e_ta1, e_ta2, Nat.zero_add, Nat.add_zero, Bool.not_true, Bool.not_false]
      exact h1 (by omega) _ kp_drw
    simp only [q1, decide_false, e_fd, e_nck, e_pkt, e_pkf, e_gdtt, e_gdtf, e_gdft, e_gdff, e_ift, e_iff, e_not, e_ln, e_lnT, e_cp, e_cvi, e_ex20, e_ex21, e_ex30, e_ex31, e_ex32, e_add, e_sub, e_mul, e_quo, e_rem, e_and, e_or, e_xor, e_shl, e_shr, e_eql, e_neq, e_lss, e_leq, e_gtr, e_geq, e_beq, e_bne, e_peq1, e_peq2, e_pne1, e_pne2, e_zeq1, e_zeq2, e_zne1, e_zne2, e_feq1, e_fne1, e_feq2, e_fne2, e_seq, e_sne, e_ta1, e_ta2, Nat.zero_add, Nat.add_zero, Bool.not_true, Bool.not_false]
    by_cases q2 : last < slot
    · rw [if_pos (.inr q2)] at h1
      simp only [q2, decide_true, e_fd, e_nck, e_pkt, e_pkf, e_gdtt, e_gdtf, e_gdft, e_gdff, e_ift, e_iff, e_not, e_ln, e_lnT, e_cp, e_cvi, e_ex20, e_ex21, e_ex30, e_ex31, e_ex32, e_add, e_sub, e_mul, e_quo, e_rem, e_and, e_or, e_xor, e_shl, e_shr, e_eql, e_neq, e_lss, e_leq, e_gtr, e_geq, e_beq, e_bne, e_peq1, e_peq2, e_pne1, e_pne2, e_zeq1, e_zeq2, e_zne1, e_zne2, e_feq1, e_fne1, e_feq2, e_fne2, e_seq, e_sne, e_ta1, e_ta2, Nat.zero_add, Nat.add_zero, Bool.not_true, Bool.not_false]
      exact h1 (by omega) _ kp_drw
    rw [if_neg (by omega)] at h0
    simp only [q2, decide_false, e_fd, e_nck, e_pkt, e_pkf, e_gdtt, e_gdtf, e_gdft, e_gdff, e_ift, e_iff, e_not, e_ln, e_lnT, e_cp, e_cvi, e_ex20, e_ex21, e_ex30, e_ex31, e_ex32, e_add, e_sub, e_mul, e_quo, e_rem, e_and, e_or, e_xor, e_shl, e_shr, e_eql, e_neq, e_lss, e_leq, e_gtr, e_geq, e_beq, e_bne, e_peq1, e_peq2, e_pne1, e_pne2, e_zeq1, e_zeq2, e_zne1, e_zne2, e_feq1, e_fne1, e_feq2, e_fne2, e_seq, e_sne, e_ta1, e_ta2, Nat.zero_add, Nat.add_zero, Bool.not_true, Bool.not_false]
    exact h0 rfl _ kp_drw
  have hrc : r = 0 ∨ r = 1 ∨ r = 2 := by omega
  unfold s62_p3
  rcases hrc with rfl | rfl | rfl
  · simp only [e_fd, e_nck, e_pkt, e_pkf, e_gdtt, e_gdtf, e_gdft, e_gdff, e_ift, e_iff, e_not, e_ln, e_lnT, e_cp, e_cvi, e_ex20, e_ex21, e_ex30, e_ex31, e_ex32, e_add, e_sub, e_mul, e_quo, e_rem, e_and, e_or, e_xor, e_shl, e_shr, e_eql, e_neq, e_lss, e_leq, e_gtr, e_geq, e_beq, e_bne, e_peq1, e_peq2, e_pne1, e_pne2, e_zeq1, e_zeq2, e_zne1, e_zne2, e_feq1, e_fne1, e_feq2, e_fne2, e_seq, e_sne, e_ta1, e_ta2, Nat.zero_add, Nat.add_zero, Bool.not_true, Bool.not_false, show ((((0 : Nat) : Int)) != 0) = false from rfl]
    unfold s62_p2
    simp only [e_fd, e_nck, e_pkt, e_pkf, e_gdtt, e_gdtf, e_gdft, e_gdff, e_ift, e_iff, e_not, e_ln, e_lnT, e_cp, e_cvi, e_ex20, e_ex21, e_ex30, e_ex31, e_ex32, e_add, e_sub, e_mul, e_quo, e_rem, e_and, e_or, e_xor, e_shl, e_shr, e_eql, e_neq, e_lss, e_leq, e_gtr, e_geq, e_beq, e_bne, e_peq1, e_peq2, e_pne1, e_pne2, e_zeq1, e_zeq2, e_zne1, e_zne2, e_feq1, e_fne1, e_feq2, e_fne2, e_seq, e_sne, e_ta1, e_ta2, Nat.zero_add, Nat.add_zero, Bool.not_true, Bool.not_false, show ((((0 : Nat) : Int)) == 2) = false from rfl]
    exact fin _ _ (by simp) (by simp)
  · simp only [e_fd, e_nck, e_pkt, e_pkf, e_gdtt, e_gdtf, e_gdft, e_gdff, e_ift, e_iff, e_not, e_ln, e_lnT, e_cp, e_cvi, e_ex20, e_ex21, e_ex30, e_ex31, e_ex32, e_add, e_sub, e_mul, e_quo, e_rem, e_and, e_or, e_xor, e_shl, e_shr, e_eql, e_neq, e_lss, e_leq, e_gtr, e_geq, e_beq, e_bne, e_peq1, e_peq2, e_pne1, e_pne2, e_zeq1, e_zeq2, e_zne1, e_zne2, e_feq1, e_fne1, e_feq2, e_fne2, e_seq, e_sne, e_ta1, e_ta2, Nat.zero_add, Nat.add_zero, Bool.not_true, Bool.not_false, show ((((1 : Nat) : Int)) != 0) = true from rfl]
    refine hat.fld (j := 5) (by omega) rfl ?_
    simp only [e_fd, e_nck, e_pkt, e_pkf, e_gdtt, e_gdtf, e_gdft, e_gdff, e_ift, e_iff, e_not, e_ln, e_lnT, e_cp, e_cvi, e_ex20, e_ex21, e_ex30, e_ex31, e_ex32, e_add, e_sub, e_mul, e_quo, e_rem, e_and, e_or, e_xor, e_shl, e_shr, e_eql, e_neq, e_lss, e_leq, e_gtr, e_geq, e_beq, e_bne, e_peq1, e_peq2, e_pne1, e_pne2, e_zeq1, e_zeq2, e_zne1, e_zne2, e_feq1, e_fne1, e_feq2, e_fne2, e_seq, e_sne, e_ta1, e_ta2, Nat.zero_add, Nat.add_zero, Bool.not_true, Bool.not_false]
    rw [wrap64_id (by omega) (by omega)]
    unfold s62_p2
    simp only [e_fd, e_nck, e_pkt, e_pkf, e_gdtt, e_gdtf, e_gdft, e_gdff, e_ift, e_iff, e_not, e_ln, e_lnT, e_cp, e_cvi, e_ex20, e_ex21, e_ex30, e_ex31, e_ex32, e_add, e_sub, e_mul, e_quo, e_rem, e_and, e_or, e_xor, e_shl, e_shr, e_eql, e_neq, e_lss, e_leq, e_gtr, e_geq, e_beq, e_bne, e_peq1, e_peq2, e_pne1, e_pne2, e_zeq1, e_zeq2, e_zne1, e_zne2, e_feq1, e_fne1, e_feq2, e_fne2, e_seq, e_sne, e_ta1, e_ta2, Nat.zero_add, Nat.add_zero, Bool.not_true, Bool.not_false, show ((((1 : Nat) : Int)) == 2) = false from rfl]
    exact fin _ _ (by simp) (by simp)
  · simp only [e_fd, e_nck, e_pkt, e_pkf, e_gdtt, e_gdtf, e_gdft, e_gdff, e_ift, e_iff, e_not, e_ln, e_lnT, e_cp, e_cvi, e_ex20, e_ex21, e_ex30, e_ex31, e_ex32, e_add, e_sub, e_mul, e_quo, e_rem, e_and, e_or, e_xor, e_shl, e_shr, e_eql, e_neq, e_lss, e_leq, e_gtr, e_geq, e_beq, e_bne, e_peq1, e_peq2, e_pne1, e_pne2, e_zeq1, e_zeq2, e_zne1, e_zne2, e_feq1, e_fne1, e_feq2, e_fne2, e_seq, e_sne, e_ta1, e_ta2, Nat.zero_add, Nat.add_zero, Bool.not_true, Bool.not_false, show ((((2 : Nat) : Int)) != 0) = true from rfl]
    refine hat.fld (j := 5) (by omega) rfl ?_
    simp only [e_fd, e_nck, e_pkt, e_pkf, e_gdtt, e_gdtf, e_gdft, e_gdff, e_ift, e_iff, e_not, e_ln, e_lnT, e_cp, e_cvi, e_ex20, e_ex21, e_ex30, e_ex31, e_ex32, e_add, e_sub, e_mul, e_quo, e_rem, e_and, e_or, e_xor, e_shl, e_shr, e_eql, e_neq, e_lss, e_leq, e_gtr, e_geq, e_beq, e_bne, e_peq1, e_peq2, e_pne1, e_pne2, e_zeq1, e_zeq2, e_zne1, e_zne2, e_feq1, e_fne1, e_feq2, e_fne2, e_seq, e_sne, e_ta1, e_ta2, Nat.zero_add, Nat.add_zero, Bool.not_true, Bool.not_false]
    rw [wrap64_id (by omega) (by omega)]
    unfold s62_p2
    simp only [e_fd, e_nck, e_pkt, e_pkf, e_gdtt, e_gdtf, e_gdft, e_gdff, e_ift, e_iff, e_not, e_ln, e_lnT, e_cp, e_cvi, e_ex20, e_ex21, e_ex30, e_ex31, e_ex32, e_add, e_sub, e_mul, e_quo, e_rem, e_and, e_or, e_xor, e_shl, e_shr, e_eql, e_neq, e_lss, e_leq, e_gtr, e_geq, e_beq, e_bne, e_peq1, e_peq2, e_pne1, e_pne2, e_zeq1, e_zeq2, e_zne1, e_zne2, e_feq1, e_fne1, e_feq2, e_fne2, e_seq, e_sne, e_ta1, e_ta2, Nat.zero_add, Nat.add_zero, Bool.not_true, Bool.not_false, show ((((2 : Nat) : Int)) == 2) = true from rfl]
    refine hat.fld (j := 5) (by omega) rfl ?_
    simp only [e_fd, e_nck, e_pkt, e_pkf, e_gdtt, e_gdtf, e_gdft, e_gdff, e_ift, e_iff, e_not, e_ln, e_lnT, e_cp, e_cvi, e_ex20, e_ex21, e_ex30, e_ex31, e_ex32, e_add, e_sub, e_mul, e_quo, e_rem, e_and, e_or, e_xor, e_shl, e_shr, e_eql, e_neq, e_lss, e_leq, e_gtr, e_geq, e_beq, e_bne, e_peq1, e_peq2, e_pne1, e_pne2, e_zeq1, e_zeq2, e_zne1, e_zne2, e_feq1, e_fne1, e_feq2, e_fne2, e_seq, e_sne, e_ta1, e_ta2, Nat.zero_add, Nat.add_zero, Bool.not_true, Bool.not_false]
    rw [wrap64_id (by omega) (by omega)]
    exact fin _ _ (by simp) (by simp)
end Go.Proofs.Qxb6500897a
