import Derived.Test.Qxb6500895aD2
namespace Go.Proofs.Qxb6500895a
open Go.Sh Go.RowKit
set_option linter.unusedVariables false
set_option linter.unusedSimpArgs false

/-- what a call on a device may change -/
structure Stp (w w' : World) (d : Nat) (m m' : Mem) : Prop where
  kp : Kp (Own d m) w w'
  own : ∀ b, Own d m' b → Own d m b ∨ w.heap.size ≤ b

theorem Stp.refl (w : World) (d : Nat) (m : Mem) : Stp w w d m m := ⟨Kp.refl _ _, fun _ h => .inl h⟩
theorem Stp.trans {w w1 w2 : World} {d : Nat} {m m1 m2 : Mem} (h : Stp w w1 d m m1) (h' : Stp w1 w2 d m1 m2) : Stp w w2 d m m2 := by
  refine ⟨h.kp.then h'.kp (fun k hk q => ?_), fun b hb => ?_⟩
  · rcases h.own k q with q | q
    · exact q
    · omega
  · rcases h'.own b hb with q | q
    · exact h.own b q
    · exact .inr (Nat.le_trans h.kp.size q)
theorem Stp.of {w w' : World} {d : Nat} {m : Mem} {T : Nat → Prop} (hk : Kp T w w') (hT : ∀ b, b < w.heap.size → T b → Own d m b) : Stp w w' d m m := ⟨hk.mono hT, fun _ h => .inl h⟩
theorem Stp.of0 {w w' : World} {d : Nat} {m : Mem} (hk : Kp (fun _ => False) w w') : Stp w w' d m m := Stp.of hk (fun _ _ h => h.elim)

theorem nd_inj {α β : Type} {f : α → β} {l : List α} (h : (l.map f).Nodup) {p q : α} (hp : p ∈ l) (hq : q ∈ l) (e : f p = f q) : p = q := by
  induction l with
  | nil => simp at hp
  | cons a l ih =>
    rw [List.map_cons, List.nodup_cons] at h
    rcases List.mem_cons.1 hp with q1 | q1
    · rcases List.mem_cons.1 hq with q2 | q2
      · rw [q1, q2]
      · exact absurd (by rw [← q1, e]; exact List.mem_map_of_mem q2) h.1
    · rcases List.mem_cons.1 hq with q2 | q2
      · exact absurd (by rw [← q2, ← e]; exact List.mem_map_of_mem q1) h.1
      · exact ih h.2 q1 q2

theorem app_inj {α : Type} {a b c d : List α} (h : a.length = c.length) (e : a ++ b = c ++ d) : a = c ∧ b = d := List.append_inj e h

theorem Sl.ne_none {α : Type} {f : α → List Value} {k : Nat} {w : World} {e : TypeId} {ob : Option Nat} {v : Value} {xs : List α} (h : Sl f k w e ob v xs) (hx : 0 < xs.length) :
    ∃ b cap junk, ob = some b ∧ v = .slice (some ⟨b, 0, none⟩) xs.length cap ∧ xs.length ≤ cap ∧ junk.length = (cap - xs.length) * k ∧ Row w b e (rows f xs ++ junk) := by
  cases ob with
  | none => obtain ⟨_, e⟩ := h; rw [e] at hx; simp at hx
  | some b => obtain ⟨cap, junk, h1, h2, h3, h4⟩ := h; exact ⟨b, cap, junk, rfl, h1, h2, h3, h4⟩

theorem sl_scal {α : Type} {f : α → List Value} {k : Nat} {w : World} {e : TypeId} {ob : Option Nat} {v : Value} {xs : List α} (h : Sl f k w e ob v xs) : scal v = true := by
  cases ob with
  | none => obtain ⟨rfl, _⟩ := h; rfl
  | some b => obtain ⟨cap, junk, rfl, _⟩ := h; rfl
theorem rows_one {α : Type} (f : α → List Value) (xs : List α) (x : α) : rows f (xs ++ [x]) = rows f xs ++ f x := by
  rw [rows_append]
  simp [rows]

theorem buffer_ok {w : World} {d : Nat} {m : Mem} {s : DS} {K : Value → World → Prop} (h : Dk w d m s) (hl : m.ls.length < 12)
    (hK : ∀ w' m' b (x : List Int), Dk w' d m' s → m'.ls = m.ls → m'.ls.length + m'.sp.length < 12 → Row w' b 5 (x.map U8) → x.length = 16 → ¬ Own d m' b → (Own d m b ∨ w.heap.size ≤ b) → Stp w w' d m m' → K (buf b) w') :
    cl Try.prog 68 #[.pointer (some ⟨d, 3, none⟩)] K w := by
  have htot := h.tot
  apply c68
  unfold s68_p1
  simp only [e_fd, e_nck, e_pkt, e_pkf, e_gdtt, e_gdtf, e_gdft, e_gdff, e_ift, e_iff, e_not, e_ln, e_lnT, e_cp, e_cvi, e_ex20, e_ex21, e_ex30, e_ex31, e_ex32, e_add, e_sub, e_mul, e_quo, e_rem, e_and, e_or, e_xor, e_shl, e_shr, e_eql, e_neq, e_lss, e_leq, e_gtr, e_geq, e_beq, e_bne, e_peq1, e_peq2, e_pne1, e_pne2, e_zeq1, e_zeq2, e_zne1, e_zne2, e_feq1, e_fne1, e_feq2, e_fne2, e_seq, e_sne, e_ta1, e_ta2, Nat.zero_add, Nat.add_zero, Bool.not_true, Bool.not_false]
  refine ld1_r h.disk rfl ?_
  refine h.spare.ln ?_
  simp only [e_fd, e_nck, e_pkt, e_pkf, e_gdtt, e_gdtf, e_gdft, e_gdff, e_ift, e_iff, e_not, e_ln, e_lnT, e_cp, e_cvi, e_ex20, e_ex21, e_ex30, e_ex31, e_ex32, e_add, e_sub, e_mul, e_quo, e_rem, e_and, e_or, e_xor, e_shl, e_shr, e_eql, e_neq, e_lss, e_leq, e_gtr, e_geq, e_beq, e_bne, e_peq1, e_peq2, e_pne1, e_pne2, e_zeq1, e_zeq2, e_zne1, e_zne2, e_feq1, e_fne1, e_feq2, e_fne2, e_seq, e_sne, e_ta1, e_ta2, Nat.zero_add, Nat.add_zero, Bool.not_true, Bool.not_false]
  by_cases h0 : m.sp.length = 0
  · have e : (((m.sp.length : Nat) : Int) == 0) = true := by rw [h0]; rfl
    simp only [e, e_fd, e_nck, e_pkt, e_pkf, e_gdtt, e_gdtf, e_gdft, e_gdff, e_ift, e_iff, e_not, e_ln, e_lnT, e_cp, e_cvi, e_ex20, e_ex21, e_ex30, e_ex31, e_ex32, e_add, e_sub, e_mul, e_quo, e_rem, e_and, e_or, e_xor, e_shl, e_shr, e_eql, e_neq, e_lss, e_leq, e_gtr, e_geq, e_beq, e_bne, e_peq1, e_peq2, e_pne1, e_pne2, e_zeq1, e_zeq2, e_zne1, e_zne2, e_feq1, e_fne1, e_feq2, e_fne2, e_seq, e_sne, e_ta1, e_ta2, Nat.zero_add, Nat.add_zero, Bool.not_true, Bool.not_false]
    refine ld1_r h.disk rfl ?_
    refine mks_r (n := 16) (by decide) (by decide) fun w1 r1 hk1 hz1 => ?_
    refine hK w1 m w.heap.size (List.replicate 16 0) (h.kp' hk1) rfl (by omega) (by simpa using r1) (by simp) ?_ (.inr (Nat.le_refl _)) (Stp.of0 hk1)
    intro q; have := h.lt q; omega
  · have e : (((m.sp.length : Nat) : Int) == 0) = false := by rw [beq_eq_false_iff_ne]; omega
    simp only [e, e_fd, e_nck, e_pkt, e_pkf, e_gdtt, e_gdtf, e_gdft, e_gdff, e_ift, e_iff, e_not, e_ln, e_lnT, e_cp, e_cvi, e_ex20, e_ex21, e_ex30, e_ex31, e_ex32, e_add, e_sub, e_mul, e_quo, e_rem, e_and, e_or, e_xor, e_shl, e_shr, e_eql, e_neq, e_lss, e_leq, e_gtr, e_geq, e_beq, e_bne, e_peq1, e_peq2, e_pne1, e_pne2, e_zeq1, e_zeq2, e_zne1, e_zne2, e_feq1, e_fne1, e_feq2, e_fne2, e_seq, e_sne, e_ta1, e_ta2, Nat.zero_add, Nat.add_zero, Bool.not_true, Bool.not_false]
    obtain ⟨sb, cap, junk, hob, hv, hcap, hjl, hrow⟩ := Sl.ne_none h.spare (by omega)
    obtain ⟨sp0, b, hsp⟩ : ∃ sp0 b, m.sp = sp0 ++ [b] := ⟨m.sp.dropLast, m.sp.getLast (by intro e; rw [e] at h0; simp at h0), (List.dropLast_concat_getLast _).symm⟩
    have hlen : m.sp.length = sp0.length + 1 := by rw [hsp]; simp
    rw [hsp, rows_one] at hrow
    have hr0 : (rows spV sp0).length = sp0.length := by rw [rows_length spV_len]; omega
    have hat : (rows spV sp0 ++ spV b ++ junk)[sp0.length]? = some (buf b) := by
      rw [List.append_assoc, List.getElem?_append_right (by omega), hr0, Nat.sub_self]
      rfl
    have en : ((m.sp.length : Nat) : Int) - 1 = (sp0.length : Int) := by omega
    have htn : ((sp0.length : Int)).toNat = sp0.length := by omega
    have hdsb : ¬ sb = d := row_ne hrow h.disk (by decide)
    refine ld1_r h.disk rfl ?_
    rw [en, wrap64_id (by omega) (by omega), hv]
    refine ⟨⟨by omega, by omega⟩, ?_⟩
    rw [htn, add_mk, Nat.zero_add, Nat.mul_one]
    refine ld1_r hrow hat ?_
    refine ld1_r h.disk rfl ?_
    rw [hv]
    refine ⟨⟨by omega, by omega⟩, ?_⟩
    rw [htn, add_mk, Nat.zero_add, Nat.mul_one]
    refine st1_r hrow (by simp only [List.length_append, hr0, spV_len]; omega) rfl fun w1 r1 hk1 hz1 => ?_
    have hset : (rows spV sp0 ++ spV b ++ junk).set sp0.length (.slice none 0 0) = rows spV sp0 ++ (.slice none 0 0 :: junk) := by
      rw [List.append_assoc, List.set_append, if_neg (by omega), hr0, Nat.sub_self]
      rfl
    rw [hset] at r1
    have hd1 := hk1.row h.disk (fun e => hdsb e.symm)
    refine ld1_r hd1 rfl ?_
    rw [hv]
    refine ⟨⟨by omega, by omega, by omega⟩, ?_⟩
    have e1 : (if cap = ((0 : Nat) : Int).toNat then (some (⟨sb, 0, none⟩ : Addr)) else (some (⟨sb, 0, none⟩ : Addr)).map (·.add (((0 : Nat) : Int).toNat * 1))) = some ⟨sb, 0, none⟩ := by
      split
      · rfl
      · show some ((⟨sb, 0, none⟩ : Addr).add (0 * 1)) = _; rw [add_mk]
    rw [e1]
    have e2 : ((sp0.length : Int)).toNat - ((0 : Nat) : Int).toNat = sp0.length := by omega
    have e3 : cap - ((0 : Nat) : Int).toNat = cap := by omega
    rw [e2, e3]
    refine st1_r hd1 (show 6 < 17 by decide) rfl fun w2 r2 hk2 hz2 => ?_
    have hk12 : Kp (fun b => b = sb ∨ b = d) w w2 := (hk1.mono fun _ _ q => .inl q).trans (hk2.mono fun _ _ q => .inr q)
    have hbn : b ∈ m.sp := by rw [hsp]; simp
    obtain ⟨x, hx1, hx2⟩ := h.spd b hbn
    have ne5 : ∀ {c l}, Row w c 5 l → ¬ (c = sb ∨ c = d) := by
      intro c l hr q
      rcases q with q | q
      · exact row_ne hr hrow (by decide) q
      · exact row_ne hr h.disk (by decide) q
    obtain ⟨L, hL1, hL2, hL3⟩ := h.plat
    have hnd := h.nd
    rw [hsp] at hnd
    refine hK w2 { m with sv := .slice (some ⟨sb, 0, none⟩) sp0.length cap, sp := sp0 } b x ⟨r2, ⟨L, hL1, hk12.row hL2 (ne5 hL2), hL3⟩, hk12.row h.idx ?_, h.lines.kp hk12 ?_, h.lnd, ?_, h.frn, ?_, ?_, h.kp.kp hk12 ?_, ?_, h.fsec, h.rsec, h.klen, h.left0, h.left1, ?_⟩ rfl ?_ (hk12.row hx2 (ne5 hx2)) hx1 ?_ (.inl ?_) ⟨?_, ?_⟩
    · rintro (q | q)
      · exact row_ne h.idx hrow (by decide) q
      · exact row_ne h.idx h.disk (by decide) q
    · intro c hc
      obtain ⟨l, hr⟩ := h.lines.row hc
      rintro (q | q)
      · exact row_ne hr hrow (by decide) q
      · exact row_ne hr h.disk (by decide) q
    · intro p hp
      obtain ⟨q1, y, q2, q3⟩ := h.lin p hp
      exact ⟨q1, y, q2, hk12.row q3 (ne5 q3)⟩
    · show Sl spV 1 w2 29 m.sob _ sp0
      rw [hob]
      exact ⟨cap, .slice none 0 0 :: junk, rfl, by omega, by rw [List.length_cons, hjl]; omega, hk2.row r1 hdsb⟩
    · intro c hc
      obtain ⟨y, q1, q2⟩ := h.spd c (by rw [hsp]; exact List.mem_append_left _ hc)
      exact ⟨y, q1, hk12.row q2 (ne5 q2)⟩
    · intro c hc
      obtain ⟨l, hr⟩ := h.kp.row hc
      rintro (q | q)
      · exact row_ne hr hrow (by decide) q
      · exact row_ne hr h.disk (by decide) q
    · rw [← List.append_assoc, ← List.cons_append] at hnd
      exact (List.nodup_append.1 hnd).1
    · show m.ls.length + sp0.length ≤ 12
      omega
    · show m.ls.length + sp0.length < 12
      omega
    · -- b is owned no more
      rw [← List.append_assoc, ← List.cons_append] at hnd
      have hdis := (List.nodup_append.1 hnd).2.2
      have hb1 : b ∉ m.pb :: (m.ls.map (·.2) ++ sp0) := fun q => hdis b q b (by simp) rfl
      rintro (q | q | q | q | q | q | q | q)
      · exact row_ne hx2 h.disk (by decide) q
      · exact hb1 (by rw [q]; simp)
      · exact row_ne hx2 h.idx (by decide) q
      · obtain ⟨l, hr⟩ := h.lines.row q; exact row_ne hx2 hr (by decide) rfl
      · obtain ⟨l, hr⟩ := h.spare.row q; exact row_ne hx2 hr (by decide) rfl
      · obtain ⟨l, hr⟩ := h.kp.row q; exact row_ne hx2 hr (by decide) rfl
      · exact hb1 (List.mem_cons_of_mem _ (List.mem_append_left _ q))
      · exact hb1 (List.mem_cons_of_mem _ (List.mem_append_right _ q))
    · exact .inr (.inr (.inr (.inr (.inr (.inr (.inr hbn))))))
    · refine hk12.mono fun c _ q => ?_
      rcases q with q | q
      · subst q; exact .inr (.inr (.inr (.inr (.inl hob))))
      · exact .inl q
    · rintro c (q | q | q | q | q | q | q | q)
      · exact .inl (.inl q)
      · exact .inl (.inr (.inl q))
      · exact .inl (.inr (.inr (.inl q)))
      · exact .inl (.inr (.inr (.inr (.inl q))))
      · exact .inl (.inr (.inr (.inr (.inr (.inl q)))))
      · exact .inl (.inr (.inr (.inr (.inr (.inr (.inl q))))))
      · exact .inl (.inr (.inr (.inr (.inr (.inr (.inr (.inl q)))))))
      · exact .inl (.inr (.inr (.inr (.inr (.inr (.inr (.inr (by rw [hsp]; exact List.mem_append_left _ q))))))))

def upd {α : Type} (f : Nat → α) (i : Nat) (v : α) : Nat → α := fun k => if k = i then v else f k

theorem idxs_app {ls : List (Nat × Nat)} {k b : Nat} (h : ∀ p ∈ ls, p.1 ≠ k) (hk : k < 12) : (idxs ls).set k (.int .i32 ((ls.length + 1 : Nat) : Int)) = idxs (ls ++ [(k, b)]) := by
  apply List.ext_getElem?
  intro i
  unfold idxs
  rw [List.getElem?_set, List.getElem?_map, List.getElem?_map]
  by_cases hi : i < 12
  · rw [List.getElem?_range hi]
    simp only [Option.map_some, pos_app h, List.length_map, List.length_range]
    by_cases e : k = i
    · subst e; rw [if_pos rfl, if_pos hi, if_pos rfl]
    · rw [if_neg e, if_neg (fun q => e q.symm)]
  · rw [if_neg (by omega), List.getElem?_eq_none (by simp; omega)]
    simp

theorem put_ok {w : World} {d : Nat} {m : Mem} {s : DS} {v : Value} {x : List Int} {k : Nat} {K : Value → World → Prop} (h : Dk w d m s) (hk12 : k < 12) (hv : Vs U8 w v x) (hsrc : ∀ b o c, 0 < x.length → v = .slice (some ⟨b, o, none⟩) x.length c → ¬ Own d m b) (hx : Sec x)
    (hK : ∀ w' m', Dk w' d m' { s with fr := upd s.fr k (some x) } → Stp w w' d m m' → K (.tuple #[]) w') : cl Try.prog 61 #[.pointer (some ⟨d, 3, none⟩), I k, v] K w := by
  apply c61
  unfold s61_p2
  refine lookup_ok h k (fun hN => ?_) (fun p y hp hpk hlk hfr hrow => ?_)
  · -- a new line
    have hfk : s.fr k = none := by unfold lk at hN; rw [if_pos (by omega)] at hN; exact hN
    have hnot : ∀ p ∈ m.ls, p.1 ≠ k := by
      intro p hp e
      obtain ⟨_, y, hy, _⟩ := h.lin p hp
      rw [e, hfk] at hy; cases hy
    have hlt : m.ls.length < 12 := by
      have := pig 12 (k :: m.ls.map (·.1)) (List.nodup_cons.2 ⟨fun q => by rw [List.mem_map] at q; obtain ⟨p, hp, e⟩ := q; exact hnot p hp e, h.lnd⟩) (by
        intro y hy
        rcases List.mem_cons.1 hy with q | q
        · omega
        · rw [List.mem_map] at q; obtain ⟨p, hp, rfl⟩ := q; exact (h.lin p hp).1)
      rw [List.length_cons, List.length_map] at this
      omega
    simp only [e_fd, e_nck, e_pkt, e_pkf, e_gdtt, e_gdtf, e_gdft, e_gdff, e_ift, e_iff, e_not, e_ln, e_lnT, e_cp, e_cvi, e_ex20, e_ex21, e_ex30, e_ex31, e_ex32, e_add, e_sub, e_mul, e_quo, e_rem, e_and, e_or, e_xor, e_shl, e_shr, e_eql, e_neq, e_lss, e_leq, e_gtr, e_geq, e_beq, e_bne, e_peq1, e_peq2, e_pne1, e_pne2, e_zeq1, e_zeq2, e_zne1, e_zne2, e_feq1, e_fne1, e_feq2, e_fne2, e_seq, e_sne, e_ta1, e_ta2, Nat.zero_add, Nat.add_zero, Bool.not_true, Bool.not_false]
    refine buffer_ok h hlt fun w1 m1 b y h1 hls1 hl1 hrb hyl hnb hob st1 => ?_
    have hv1 := hv.kp st1.kp hsrc
    refine cp_r (o := 0) (n := 16) hrb hv1 hx.1 (by rw [List.length_map]; omega) (fun _ => rfl) fun w2 r2 hk2 hz2 => ?_
    rw [List.take_zero, List.nil_append, Nat.zero_add, List.drop_of_length_le (by rw [List.length_map]; omega), List.append_nil] at r2
    have h2 := h1.frame hk2 (fun c hc (q : c = b) => hnb (q ▸ hc))
    try simp only [e_fd, e_nck, e_pkt, e_pkf, e_gdtt, e_gdtf, e_gdft, e_gdff, e_ift, e_iff, e_not, e_ln, e_lnT, e_cp, e_cvi, e_ex20, e_ex21, e_ex30, e_ex31, e_ex32, e_add, e_sub, e_mul, e_quo, e_rem, e_and, e_or, e_xor, e_shl, e_shr, e_eql, e_neq, e_lss, e_leq, e_gtr, e_geq, e_beq, e_bne, e_peq1, e_peq2, e_pne1, e_pne2, e_zeq1, e_zeq2, e_zne1, e_zne2, e_feq1, e_fne1, e_feq2, e_fne2, e_seq, e_sne, e_ta1, e_ta2, Nat.zero_add, Nat.add_zero, Bool.not_true, Bool.not_false]
    refine ld1_r h2.disk rfl ?_
    refine bdq_r rfl ?_
    rw [← hls1] at hlt hnot
    refine h2.lines.app lnV_len rfl (k, b) rfl (by omega) (by omega) rfl fun w3 lv' lob' hsl3 hk3 ho3 => ?_
    have nel : ∀ {c t l}, Row w2 c t l → t ≠ 100 → ¬ m1.lob = some c := by
      intro c t l hr ht q
      obtain ⟨l', hr'⟩ := h2.lines.row q
      exact row_ne hr hr' ht rfl
    have hd3 := hk3.row h2.disk (nel h2.disk (by decide))
    refine st1_r hd3 (show 5 < 17 by decide) (sl_scal hsl3) fun w4 r4 hk4 hz4 => ?_
    have hsl4 : Sl lnV 2 w4 100 lob' lv' (m1.ls ++ [(k, b)]) := hsl3.kp hk4 (fun c hc q => by
      obtain ⟨l, hr⟩ := hsl3.row hc
      exact row_ne hr hd3 (by decide) q)
    unfold s61_p1 s61_p1_d
    simp only [e_fd, e_nck, e_pkt, e_pkf, e_gdtt, e_gdtf, e_gdft, e_gdff, e_ift, e_iff, e_not, e_ln, e_lnT, e_cp, e_cvi, e_ex20, e_ex21, e_ex30, e_ex31, e_ex32, e_add, e_sub, e_mul, e_quo, e_rem, e_and, e_or, e_xor, e_shl, e_shr, e_eql, e_neq, e_lss, e_leq, e_gtr, e_geq, e_beq, e_bne, e_peq1, e_peq2, e_pne1, e_pne2, e_zeq1, e_zeq2, e_zne1, e_zne2, e_feq1, e_fne1, e_feq2, e_fne2, e_seq, e_sne, e_ta1, e_ta2, Nat.zero_add, Nat.add_zero, Bool.not_true, Bool.not_false]
    have r4' := r4.drw
    refine ld1_r r4' rfl ?_
    refine ld1_r r4' rfl ?_
    refine (hsl4.kp' kp_drw).ln ?_
    simp only [e_fd, e_nck, e_pkt, e_pkf, e_gdtt, e_gdtf, e_gdft, e_gdff, e_ift, e_iff, e_not, e_ln, e_lnT, e_cp, e_cvi, e_ex20, e_ex21, e_ex30, e_ex31, e_ex32, e_add, e_sub, e_mul, e_quo, e_rem, e_and, e_or, e_xor, e_shl, e_shr, e_eql, e_neq, e_lss, e_leq, e_gtr, e_geq, e_beq, e_bne, e_peq1, e_peq2, e_pne1, e_pne2, e_zeq1, e_zeq2, e_zne1, e_zne2, e_feq1, e_fne1, e_feq2, e_fne2, e_seq, e_sne, e_ta1, e_ta2, Nat.zero_add, Nat.add_zero, Bool.not_true, Bool.not_false]
    rw [List.length_append, List.length_singleton, wrapi32 (by omega) (by omega)]
    refine ⟨⟨by omega, by omega⟩, ?_⟩
    have ek : ((k : Int)).toNat = k := by omega
    rw [ek, add_mk, Nat.zero_add, Nat.mul_one]
    have hidx3 := hk3.row h2.idx (nel h2.idx (by decide))
    have hidx4 := (hk4.row hidx3 (row_ne hidx3 hd3 (by decide))).drw
    refine st1_r hidx4 (by simp [idxs]; omega) rfl fun w5 r5 hk5 hz5 => ?_
    rw [idxs_app (b := b) hnot hk12] at r5
    -- the whole
    have hk25 : Kp (fun c => m1.lob = some c ∨ c = d ∨ c = m1.ib) w2 w5 := ((hk3.mono fun _ _ q => .inl q).trans (hk4.mono fun _ _ q => .inr (.inl q))).trans (((kp_drw (w := w4) (S := fun _ => False)).none).trans (hk5.mono fun _ _ q => .inr (.inr q)))
    have nel5 : ∀ {c t l}, Row w2 c t l → t ≠ 100 → t ≠ 91 → t ≠ 21 → ¬ (m1.lob = some c ∨ c = d ∨ c = m1.ib) := by
      intro c t l hr t1 t2 t3 q
      rcases q with q | q | q
      · exact nel hr t1 q
      · exact row_ne hr h2.disk t2 q
      · exact row_ne hr h2.idx t3 q
    have hsz2 := hk2.size
    have hsz1 := st1.kp.size
    obtain ⟨L, hL1, hL2, hL3⟩ := h2.plat
    refine hK w5 { m1 with lv := lv', lob := lob', ls := m1.ls ++ [(k, b)] } ⟨?_, ⟨L, hL1, hk25.row hL2 (nel5 hL2 (by decide) (by decide) (by decide)), hL3⟩, r5, ?_, ?_, ?_, ?_, h2.spare.kp hk25 ?_, ?_, h2.kp.kp hk25 ?_, ?_, h2.fsec, ?_, h2.klen, h2.left0, h2.left1, ?_⟩ ⟨?_, ?_⟩
    · exact hk5.row r4' (fun e => row_ne r4' hidx4 (by decide) e)
    · exact (hsl4.kp' kp_drw).kp hk5 (fun c hc q => by
        obtain ⟨l, hr⟩ := (hsl4.kp' (kp_drw (w := w4))).row hc
        exact row_ne hr hidx4 (by decide) q)
    · show ((m1.ls ++ [(k, b)]).map (·.1)).Nodup
      rw [List.map_append]
      refine List.nodup_append.2 ⟨h2.lnd, by simp, ?_⟩
      intro a ha c hc e
      simp at hc
      rw [List.mem_map] at ha
      obtain ⟨p, hp, rfl⟩ := ha
      exact hnot p hp (by rw [e, hc])
    · intro p hp
      rcases List.mem_append.1 hp with q | q
      · obtain ⟨q1, y', q2, q3⟩ := h2.lin p q
        refine ⟨q1, y', ?_, hk25.row q3 (nel5 q3 (by decide) (by decide) (by decide))⟩
        show upd s.fr k (some x) p.1 = some y'
        unfold upd
        rw [if_neg (hnot p q)]; exact q2
      · simp at q
        subst q
        refine ⟨hk12, x, ?_, hk25.row r2 (nel5 r2 (by decide) (by decide) (by decide))⟩
        show upd s.fr k (some x) k = some x
        unfold upd; rw [if_pos rfl]
    · intro k' hk'
      show upd s.fr k (some x) k' = none
      unfold upd
      have hne : k' ≠ k := fun e => hk' (k, b) (by simp) e.symm
      rw [if_neg hne]
      exact h2.frn k' (fun p hp => hk' p (List.mem_append_left _ hp))
    · intro c hc
      obtain ⟨l, hr⟩ := h2.spare.row hc
      exact nel5 hr (by decide) (by decide) (by decide)
    · intro c hc
      obtain ⟨y', q1, q2⟩ := h2.spd c hc
      exact ⟨y', q1, hk25.row q2 (nel5 q2 (by decide) (by decide) (by decide))⟩
    · intro c hc
      obtain ⟨l, hr⟩ := h2.kp.row hc
      exact nel5 hr (by decide) (by decide) (by decide)
    · show (m1.pb :: ((m1.ls ++ [(k, b)]).map (·.2) ++ m1.sp)).Nodup
      rw [List.map_append]
      have hnd := h2.nd
      have hbn : b ∉ m1.pb :: (m1.ls.map (·.2) ++ m1.sp) := by
        intro q
        rcases List.mem_cons.1 q with q | q
        · exact hnb (.inr (.inl q))
        · rcases List.mem_append.1 q with q | q
          · exact hnb (.inr (.inr (.inr (.inr (.inr (.inr (.inl q)))))))
          · exact hnb (.inr (.inr (.inr (.inr (.inr (.inr (.inr q)))))))
      have hp : (m1.pb :: ((m1.ls.map (·.2) ++ [b]) ++ m1.sp)).Perm (b :: (m1.pb :: (m1.ls.map (·.2) ++ m1.sp))) := by
        have : ((m1.pb :: m1.ls.map (·.2)) ++ b :: m1.sp).Perm (b :: ((m1.pb :: m1.ls.map (·.2)) ++ m1.sp)) := List.perm_middle
        simpa using this
      exact hp.nodup_iff.2 (List.nodup_cons.2 ⟨hbn, hnd⟩)
    · intro i y' hy'
      have hy'' : upd s.fr k (some x) i = some y' := hy'
      unfold upd at hy''
      split at hy''
      · cases hy''; exact hx
      · exact h2.rsec i y' hy''
    · show (m1.ls ++ [(k, b)]).length + m1.sp.length ≤ 12
      rw [List.length_append, List.length_singleton]; omega
    · refine st1.kp.then ((hk2.mono (T := fun c => c = b ∨ m1.lob = some c ∨ c = d ∨ c = m1.ib) fun _ _ q => .inl q).trans (hk25.mono fun _ _ q => .inr q)) ?_
      intro c hc q
      have conv : Own d m1 c → Own d m c := fun q => (st1.own c q).resolve_right (by omega)
      rcases q with q | q | q | q
      · subst q; exact hob.resolve_right (by omega)
      · exact conv (.inr (.inr (.inr (.inl q))))
      · exact .inl q
      · exact conv (.inr (.inr (.inl q)))
    · have conv : ∀ c, Own d m1 c → Own d m c ∨ w.heap.size ≤ c := st1.own
      rintro c (q | q | q | q | q | q | q | q)
      · exact .inl (.inl q)
      · exact conv c (.inr (.inl q))
      · exact conv c (.inr (.inr (.inl q)))
      · rcases ho3 with e | ⟨b', e, hb'⟩
        · exact conv c (.inr (.inr (.inr (.inl (by rw [← e]; exact q)))))
        · have q' : lob' = some c := q
          rw [e] at q'; cases q'
          exact .inr (by omega)
      · exact conv c (.inr (.inr (.inr (.inr (.inl q)))))
      · exact conv c (.inr (.inr (.inr (.inr (.inr (.inl q))))))
      · have q' : c ∈ (m1.ls ++ [(k, b)]).map (·.2) := q
        rw [List.map_append] at q'
        rcases List.mem_append.1 q' with q | q
        · exact conv c (.inr (.inr (.inr (.inr (.inr (.inr (.inl q)))))))
        · simp at q; subst q; exact hob
      · exact conv c (.inr (.inr (.inr (.inr (.inr (.inr (.inr q)))))))
  · -- a line that is there
    have hpk' : p.1 = k := by omega
    unfold buf
    simp only [e_fd, e_nck, e_pkt, e_pkf, e_gdtt, e_gdtf, e_gdft, e_gdff, e_ift, e_iff, e_not, e_ln, e_lnT, e_cp, e_cvi, e_ex20, e_ex21, e_ex30, e_ex31, e_ex32, e_add, e_sub, e_mul, e_quo, e_rem, e_and, e_or, e_xor, e_shl, e_shr, e_eql, e_neq, e_lss, e_leq, e_gtr, e_geq, e_beq, e_bne, e_peq1, e_peq2, e_pne1, e_pne2, e_zeq1, e_zeq2, e_zne1, e_zne2, e_feq1, e_fne1, e_feq2, e_fne2, e_seq, e_sne, e_ta1, e_ta2, Nat.zero_add, Nat.add_zero, Bool.not_true, Bool.not_false]
    have hyl := (h.rsec _ _ hfr).1
    refine cp_r (o := 0) (n := 16) hrow hv hx.1 (by rw [List.length_map]; omega) (fun _ => rfl) fun w2 r2 hk2 hz2 => ?_
    rw [List.take_zero, List.nil_append, Nat.zero_add, List.drop_of_length_le (by rw [List.length_map]; omega), List.append_nil] at r2
    have hpm : p.2 ∈ m.ls.map (·.2) := List.mem_map_of_mem hp
    have ne : ∀ {c t l}, Row w c t l → t ≠ 5 → ¬ c = p.2 := fun hr ht e => row_ne hr hrow ht e
    have hnd := List.nodup_cons.1 h.nd
    have hnd2 := List.nodup_append.1 hnd.2
    obtain ⟨L, hL1, hL2, hL3⟩ := h.plat
    refine hK w2 m ⟨hk2.row h.disk (ne h.disk (by decide)), ⟨L, hL1, hk2.row hL2 ?_, hL3⟩, hk2.row h.idx (ne h.idx (by decide)), h.lines.kp hk2 ?_, h.lnd, ?_, ?_, h.spare.kp hk2 ?_, ?_, h.kp.kp hk2 ?_, h.nd, h.fsec, ?_, h.klen, h.left0, h.left1, h.tot⟩
      (Stp.of hk2 fun c _ (q : c = p.2) => .inr (.inr (.inr (.inr (.inr (.inr (.inl (by rw [q]; exact hpm))))))))
    · intro (e : m.pb = p.2); exact hnd.1 (by rw [e]; exact List.mem_append_left _ hpm)
    · intro c hc; obtain ⟨l, hr⟩ := h.lines.row hc; exact ne hr (by decide)
    · intro p' hp'
      obtain ⟨q1, y', q2, q3⟩ := h.lin p' hp'
      by_cases e : p'.1 = k
      · have ep : p' = p := nd_inj h.lnd hp' hp (by omega)
        subst ep
        exact ⟨q1, x, by show upd s.fr k (some x) p'.1 = some x; unfold upd; rw [if_pos e], r2⟩
      · refine ⟨q1, y', by show upd s.fr k (some x) p'.1 = some y'; unfold upd; rw [if_neg e]; exact q2, hk2.row q3 ?_⟩
        intro (e2 : p'.2 = p.2)
        exact e (by rw [nd_inj hnd2.1 hp' hp e2]; exact hpk')
    · intro k' hk'
      show upd s.fr k (some x) k' = none
      unfold upd
      rw [if_neg (fun e => hk' p hp (by omega))]
      exact h.frn k' hk'
    · intro c hc; obtain ⟨l, hr⟩ := h.spare.row hc; exact ne hr (by decide)
    · intro c hc
      obtain ⟨y', q1, q2⟩ := h.spd c hc
      refine ⟨y', q1, hk2.row q2 ?_⟩
      intro (e : c = p.2)
      exact hnd2.2.2 p.2 hpm c hc e.symm
    · intro c hc; obtain ⟨l, hr⟩ := h.kp.row hc; exact ne hr (by decide)
    · intro i y' hy'
      have hy'' : upd s.fr k (some x) i = some y' := hy'
      unfold upd at hy''
      split at hy''
      · cases hy''; exact hx
      · exact h.rsec i y' hy''
end Go.Proofs.Qxb6500895a
