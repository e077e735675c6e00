import Derived.Test.Qxb6500893aDoorA10
namespace Go.Proofs.Qxb6500893aDoor
open Go.Sh Go.RowKit
set_option linter.unusedVariables false
set_option linter.unusedSimpArgs false

def OwnW (m : Wm) (L : List Lb) (b : Nat) : Prop := b = m.wdb ∨ OwnA m.ab m.M b ∨ b = m.tb ∨ b = m.pb ∨ m.lob = some b ∨ ∃ x ∈ L, x.b = b
/-- from the world W on, only what the player's world owns has changed -/
structure StW (W w : World) (m0 : Wm) (L0 : List Lb) (m : Wm) (L : List Lb) : Prop where
  kp : Kp (OwnW m0 L0) W w
  own : ∀ b, OwnW m L b → OwnW m0 L0 b ∨ W.heap.size ≤ b
  wdb : m.wdb = m0.wdb
  md : m.md = m0.md
  ab : m.ab = m0.ab

section
variable {W w w' : World} {K : Value → World → Prop} {C : Nat → Prop} {s s' : Ws} {m m' m0 : Wm} {L L' L0 : List Lb} {A : Ar} {T : Tb} {b : Nat}
theorem StW.refl (w : World) (m : Wm) (L : List Lb) : StW w w m L m L := ⟨Kp.refl _ _, fun b h => .inl h, rfl, rfl, rfl⟩
theorem StW.step (h : StW W w m0 L0 m L) (hk : Kp C w w') (hC : ∀ b, C b → OwnW m L b ∨ W.heap.size ≤ b) (ho : ∀ b, OwnW m' L' b → OwnW m L b ∨ W.heap.size ≤ b) (h1 : m'.wdb = m.wdb) (h2 : m'.md = m.md) (h3 : m'.ab = m.ab) : StW W w' m0 L0 m' L' := by
  refine ⟨h.kp.then hk (fun k hk' q => ?_), fun b hb => ?_, h1.trans h.wdb, h2.trans h.md, h3.trans h.ab⟩
  · rcases hC k q with q | q
    · exact (h.own k q).resolve_right (by omega)
    · omega
  · rcases ho b hb with q | q
    · exact h.own b q
    · exact .inr q
/-- only new blocks change -/
theorem StW.new (h : StW W w m0 L0 m L) (hk : Kp C w w') (hC : ∀ b, C b → W.heap.size ≤ b) : StW W w' m0 L0 m L := h.step hk (fun b q => .inr (hC b q)) (fun b q => .inl q) rfl rfl rfl
theorem StW.new0 (h : StW W w m0 L0 m L) (hk : Kp (fun _ => False) w w') : StW W w' m0 L0 m L := h.new hk (fun _ q => q.elim)
theorem StW.setA (h : StW W w m0 L0 m L) {M' : Am} (st : StA w w' m.ab m.M M') : StW W w' m0 L0 { m with M := M' } L := by
  have sz := h.kp.size
  refine h.step st.kp (fun b q => .inl (.inr (.inl q))) (fun b q => ?_) rfl rfl rfl
  rcases q with q | q | q
  · exact .inl (.inl q)
  · rcases st.own' q with q | q
    · exact .inl (.inr (.inl q))
    · exact .inr (by omega)
  · exact .inl (.inr (.inr q))
theorem Wd.lt (h : Wd w m s) (hb : OwnW m s.L b) : b < w.heap.size := by
  obtain ⟨junk, hj, hp⟩ := h.tbl.pools
  rcases hb with q | q | q | q | q | ⟨x, hx, q⟩
  · rw [q]; exact h.row.lt
  · exact h.arn.lt q
  · rw [q]; exact h.tbl.row.lt
  · rw [q]; exact hp.lt
  · obtain ⟨l, hr⟩ := h.live.sl.row q; exact hr.lt
  · rw [← q]; exact (h.live.rw x hx).lt
theorem Wd.ntag (h : Wd w m s) {t : TypeId} {l : List Value} (hr : Row w b t l) (ht : [50, 114, 71, 31, 106, 112, 66].contains t = false) : ¬ OwnW m s.L b := by
  have hne : ∀ t' ∈ [50, 114, 71, 31, 106, 112, 66], t ≠ t' := fun t' ht' e => by
    rw [e, List.contains_iff_mem.2 ht'] at ht; cases ht
  obtain ⟨junk, hj, hp⟩ := h.tbl.pools
  rintro (q | q | q | q | q | ⟨x, hx, q⟩)
  · exact row_ne hr h.row (hne _ (by decide)) q
  · exact h.arn.ntag hr (hne _ (by decide)) (hne _ (by decide)) (hne _ (by decide)) q
  · exact row_ne hr h.tbl.row (hne _ (by decide)) q
  · exact row_ne hr hp (hne _ (by decide)) q
  · obtain ⟨l, hr'⟩ := h.live.sl.row q; exact row_ne hr hr' (hne _ (by decide)) rfl
  · exact row_ne hr (h.live.rw x hx) (hne _ (by decide)) q.symm
theorem Wd.frame (h : Wd w m s) (hk : Kp C w w') (hn : ∀ b, OwnW m s.L b → ¬ C b) : Wd w' m s :=
  ⟨hk.row h.row (hn _ (.inl rfl)), h.arn.frame hk (fun b q => hn b (.inr (.inl q))), h.tbl.kp hk (hn _ (.inr (.inr (.inl rfl)))) (hn _ (.inr (.inr (.inr (.inl rfl))))), h.ok, h.live.kp hk (fun b q => hn b (.inr (.inr (.inr (.inr (.inl q)))))) (fun x hx => hn _ (.inr (.inr (.inr (.inr (.inr ⟨x, hx, rfl⟩)))))), h.nwb⟩
/-- a block of another tag changes -/
theorem Wd.tmp (h : Wd w m s) {t : TypeId} {l : List Value} (hr : Row w b t l) (hk : Kp (fun k => k = b) w w') (ht : [50, 114, 71, 31, 106, 112, 66].contains t = false) : Wd w' m s :=
  h.frame hk (fun k q (e : k = b) => h.ntag hr ht (e ▸ q))

def A0 (A : Ar) : Ar := { A with sd := [] }
def pl (T : Tb) (id : Int) : Option Shp := if 0 ≤ id then T.ps[id.toNat]? else none
theorem pl_some {i : Nat} (hi : i < T.ps.length) : pl T (i : Nat) = some T.ps[i] := by
  unfold pl; rw [if_pos (by omega), Int.toNat_natCast, List.getElem?_eq_getElem hi]
theorem pl_none {id : Int} (h : ¬ (0 ≤ id ∧ id < T.ps.length)) : pl T id = none := by
  unfold pl
  split
  · rw [List.getElem?_eq_none_iff]; omega
  · rfl
/-- the player's list after a call that went well -/
def finS (nb : Nat) (s : Ws) (code : Int) (at_ : Nat) (c : Call) : Ws :=
  if code = 0 then
    (if c.kind = 2 then (match pl s.T c.pool with
      | some sh => ⟨tk (A0 s.A) sh.bw, s.T, s.L ++ [⟨c.pool, at_, nb, cut s.A at_ sh.bw⟩]⟩
      | none => { s with A := A0 s.A })
    else if c.kind = 3 ∨ c.kind = 4 then ⟨A0 s.A, s.T, forgetL s.L c.at_⟩ else { s with A := A0 s.A })
  else { s with A := A0 s.A }
abbrev Q4 := Nat × Nat × Nat × Nat
def outV (code id : Int) (at_ : Nat) (q : Q4) (st : Nat) (sv : Value) : List Value := [I code, I id, U32 at_, U32 q.1, U32 q.2.1, U32 q.2.2.1, U64 q.2.2.2, U64 st, sv]
def sub64 (a b : Nat) : Nat := (a + 18446744073709551616 - b) % 18446744073709551616
theorem forget_mem {a : Nat} {x : Lb} (h : x ∈ forgetL L a) : x ∈ L := by
  unfold forgetL at h
  split at h
  · exact List.mem_of_mem_eraseIdx h
  · exact h
theorem forget_sub {a : Nat} : (forgetL L a).Sublist L := by
  unfold forgetL
  split
  · exact List.eraseIdx_sublist ..
  · exact List.Sublist.refl _
theorem bsq_and {e : TypeId} {z : List Value} {n : Nat} {ps : List (Option (Nat × Nat) × Value)} {K K' : Value → World → Prop} (h : bsq e z n ps K w) (h' : bsq e z n ps K' w) : bsq e z n ps (fun t w => K t w ∧ K' t w) w := by
  unfold bsq at *
  split
  · rename_i l e; rw [e] at h h'; exact ⟨h, h'⟩
  · rename_i e; rw [e] at h; exact h

theorem real_end {t4 t5 : Nat} {l4 : List Value} {code id : Int} {at_ st : Nat} {q : Q4} {sv : Value} (r4 : Row w t4 41 l4) (h4 : l4.length = 9) (r5 : Row w t5 41 (outV code id at_ q st sv)) (hs : scal sv = true) (hK : ∀ w', Kp (fun b => b = t4) w w' → K (.agg (outV code id at_ q st sv).toArray) w') : s14_p1 K (P t4 0) (P t5 0) w := by
  unfold s14_p1
  refine ldn_r r5 (show 0 + 9 ≤ 9 by decide) ?_
  refine stn_r (cs := outV code id at_ q st sv) r4 rfl (show 0 + 9 ≤ l4.length by omega) (by simp [outV, scal]; exact hs) fun w2 r2 hk2 hz2 => ?_
  have e : l4.drop (0 + 9) = [] := List.drop_of_length_le (by omega)
  rw [e] at r2
  refine ldn_r r2 (show 0 + 9 ≤ _ by simp [outV]) ?_
  exact hK w2 hk2

theorem real_tail {t3 t4 t5 st0 : Nat} {c : Call} {code id : Int} {at_ : Nat} {q : Q4} {l4 : List Value} (h : Wd w m s) (st : StW W w m0 L0 m s.L) (r3 : Row w t3 33 (cac c)) (r4 : Row w t4 41 l4) (hl4 : l4.length = 9) (r5 : Row w t5 41 (outV code id at_ q 0 nilS)) (n45 : t4 ≠ t5)
    (z4 : W.heap.size ≤ t4) (z5 : W.heap.size ≤ t5) (zs : ∀ b, m.M.sob = some b → W.heap.size ≤ b) (hst : st0 < 18446744073709551616) (hL : s.L.length ≤ 900000) (hk8 : c.kind < 256)
    (hal : code = 0 → c.kind = 2 → ∃ i, ∃ hi : i < s.T.ps.length, c.pool = (i : Int) ∧ at_ + s.T.ps[i].bw ≤ 4096)
    (hK : ∀ w' m' nb sob sv, Wd w' m' (finS nb s code at_ c) → StW W w' m0 L0 m' (finS nb s code at_ c).L → Sl u1 1 w' 31 sob sv s.A.sd → (∀ b, sob = some b → W.heap.size ≤ b ∧ ¬ OwnW m' (finS nb s code at_ c).L b) → K (.agg (outV code id at_ q (sub64 s.A.st st0) sv).toArray) w') :
    s14_p9 K (P m.wdb 0) (P t3 0) (P t4 0) (P t5 0) (U64 st0) w := by
  unfold s14_p9
  try simp only [e_fd, e_nck, e_pkt, e_pkf, e_gdtt, e_gdtf, e_gdft, e_gdff, e_ift, e_iff, e_not, e_ln, e_lnT, e_cp, e_cvi, e_ex20, e_ex21, e_ex30, e_ex31, e_ex32, e_add, e_sub, e_mul, e_quo, e_rem, e_and, e_or, e_xor, e_shl, e_shr, e_eql, e_neq, e_lss, e_leq, e_gtr, e_geq, e_beq, e_bne, e_peq1, e_peq2, e_pne1, e_pne2, e_zeq1, e_zeq2, e_zne1, e_zne2, e_feq1, e_fne1, e_feq2, e_fne2, e_seq, e_sne, e_ta1, e_ta2, Nat.zero_add, Nat.add_zero, Bool.not_true, Bool.not_false]
  refine ld1_r h.row rfl ?_
  refine steps_ok h.arn ?_
  try simp only [e_fd, e_nck, e_pkt, e_pkf, e_gdtt, e_gdtf, e_gdft, e_gdff, e_ift, e_iff, e_not, e_ln, e_lnT, e_cp, e_cvi, e_ex20, e_ex21, e_ex30, e_ex31, e_ex32, e_add, e_sub, e_mul, e_quo, e_rem, e_and, e_or, e_xor, e_shl, e_shr, e_eql, e_neq, e_lss, e_leq, e_gtr, e_geq, e_beq, e_bne, e_peq1, e_peq2, e_pne1, e_pne2, e_zeq1, e_zeq2, e_zne1, e_zne2, e_feq1, e_fne1, e_feq2, e_fne2, e_seq, e_sne, e_ta1, e_ta2, Nat.zero_add, Nat.add_zero, Bool.not_true, Bool.not_false]
  have hA := h.arn.st
  have e1 : IntKind.u64.wrap (((s.A.st : Nat) : Int) - ((st0 : Nat) : Int)) = ((sub64 s.A.st st0 : Nat) : Int) := by rw [wrapU64]; unfold sub64; omega
  rw [e1]
  refine st1_r r5 (show 7 < 9 by decide) rfl fun w1 r1 hk1 hz1 => ?_
  have h1 := h.tmp r5 hk1 (by decide)
  have st1 := st.new hk1 (fun b (e : b = t5) => by omega)
  have r31 := hk1.row r3 (fun (q : _ = _) => row_ne r3 r5 (by decide) q)
  have r41 := hk1.row r4 (fun (q : _ = _) => n45 q)
  have r1' : Row w1 t5 41 (outV code id at_ q (sub64 s.A.st st0) nilS) := r1
  try simp only [e_fd, e_nck, e_pkt, e_pkf, e_gdtt, e_gdtf, e_gdft, e_gdff, e_ift, e_iff, e_not, e_ln, e_lnT, e_cp, e_cvi, e_ex20, e_ex21, e_ex30, e_ex31, e_ex32, e_add, e_sub, e_mul, e_quo, e_rem, e_and, e_or, e_xor, e_shl, e_shr, e_eql, e_neq, e_lss, e_leq, e_gtr, e_geq, e_beq, e_bne, e_peq1, e_peq2, e_pne1, e_pne2, e_zeq1, e_zeq2, e_zne1, e_zne2, e_feq1, e_fne1, e_feq2, e_fne2, e_seq, e_sne, e_ta1, e_ta2, Nat.zero_add, Nat.add_zero, Bool.not_true, Bool.not_false]
  refine ld1_r h1.row rfl ?_
  have old := h1.arn.sd
  refine take_ok h1.arn fun w2 a2 sl2 hk2 => ?_
  have sA2 : StA w1 w2 m.ab m.M { m.M with sv := nilS, sob := none } := ⟨hk2.mono (fun b _ q => .inl q), rfl, fun b hb => by cases hb⟩
  have h2 := h1.setA a2 sA2
  have st2 := st1.setA sA2
  have nt : ∀ {t b l}, Row w1 b t l → t ≠ 114 → Row w2 b t l := fun hr ht => hk2.row hr (fun (q : _ = _) => row_ne hr h1.arn.row ht q)
  have r32 := nt r31 (by decide)
  have r42 := nt r41 (by decide)
  have r52 := nt r1' (by decide)
  have nob : ∀ b, m.M.sob = some b → ¬ OwnW { m with M := { m.M with sv := nilS, sob := none } } s.L b := by
    intro b hb q
    obtain ⟨l, hr⟩ := sl2.row hb
    obtain ⟨junk, hj, hp⟩ := h2.tbl.pools
    rcases q with q | q | q | q | q | ⟨x, hx, q⟩
    · exact row_ne hr h2.row (by decide) q
    · rcases q with q | q | q
      · exact row_ne hr h2.arn.row (by decide) q
      · exact row_ne hr h2.arn.ws (by decide) q
      · cases q
    · exact row_ne hr h2.tbl.row (by decide) q
    · exact row_ne hr hp (by decide) q
    · obtain ⟨l', hr'⟩ := h2.live.sl.row q; exact row_ne hr hr' (by decide) rfl
    · exact row_ne hr (h2.live.rw x hx) (by decide) q.symm
  try simp only [e_fd, e_nck, e_pkt, e_pkf, e_gdtt, e_gdtf, e_gdft, e_gdff, e_ift, e_iff, e_not, e_ln, e_lnT, e_cp, e_cvi, e_ex20, e_ex21, e_ex30, e_ex31, e_ex32, e_add, e_sub, e_mul, e_quo, e_rem, e_and, e_or, e_xor, e_shl, e_shr, e_eql, e_neq, e_lss, e_leq, e_gtr, e_geq, e_beq, e_bne, e_peq1, e_peq2, e_pne1, e_pne2, e_zeq1, e_zeq2, e_zne1, e_zne2, e_feq1, e_fne1, e_feq2, e_fne2, e_seq, e_sne, e_ta1, e_ta2, Nat.zero_add, Nat.add_zero, Bool.not_true, Bool.not_false]
  refine st1_r r52 (show 8 < 9 by decide) (sl_scal sl2) fun w3 r3' hk3 hz3 => ?_
  have r53 : Row w3 t5 41 (outV code id at_ q (sub64 s.A.st st0) m.M.sv) := r3'
  have h3 := h2.tmp r52 hk3 (by decide)
  have st3 := st2.new hk3 (fun b (e : b = t5) => by omega)
  have sl3 := sl2.kp hk3 (fun b hb (q : b = t5) => by obtain ⟨l, hr⟩ := sl2.row hb; exact row_ne hr r52 (by decide) q)
  have r33 := hk3.row r32 (fun (q : _ = _) => row_ne r32 r52 (by decide) q)
  have r43 := hk3.row r42 (fun (q : _ = _) => n45 q)
  try simp only [e_fd, e_nck, e_pkt, e_pkf, e_gdtt, e_gdtf, e_gdft, e_gdff, e_ift, e_iff, e_not, e_ln, e_lnT, e_cp, e_cvi, e_ex20, e_ex21, e_ex30, e_ex31, e_ex32, e_add, e_sub, e_mul, e_quo, e_rem, e_and, e_or, e_xor, e_shl, e_shr, e_eql, e_neq, e_lss, e_leq, e_gtr, e_geq, e_beq, e_bne, e_peq1, e_peq2, e_pne1, e_pne2, e_zeq1, e_zeq2, e_zne1, e_zne2, e_feq1, e_fne1, e_feq2, e_fne2, e_seq, e_sne, e_ta1, e_ta2, Nat.zero_add, Nat.add_zero, Bool.not_true, Bool.not_false]
  refine ld1_r r53 rfl ?_
  try simp only [e_fd, e_nck, e_pkt, e_pkf, e_gdtt, e_gdtf, e_gdft, e_gdff, e_ift, e_iff, e_not, e_ln, e_lnT, e_cp, e_cvi, e_ex20, e_ex21, e_ex30, e_ex31, e_ex32, e_add, e_sub, e_mul, e_quo, e_rem, e_and, e_or, e_xor, e_shl, e_shr, e_eql, e_neq, e_lss, e_leq, e_gtr, e_geq, e_beq, e_bne, e_peq1, e_peq2, e_pne1, e_pne2, e_zeq1, e_zeq2, e_zne1, e_zne2, e_feq1, e_fne1, e_feq2, e_fne2, e_seq, e_sne, e_ta1, e_ta2, Nat.zero_add, Nat.add_zero, Bool.not_true, Bool.not_false]
  have hs3 := sl_scal sl3
  have lt0 : ∀ b, m.M.sob = some b → b < w3.heap.size := fun b hb => by obtain ⟨l, hr⟩ := sl3.row hb; exact hr.lt
  -- nothing more to do
  have plain : finS 0 s code at_ c = { s with A := A0 s.A } → s14_p1 K (P t4 0) (P t5 0) w3 := by
    intro e
    refine real_end r43 hl4 r53 hs3 fun w4 hk4 => ?_
    have h4 := h3.tmp r43 hk4 (by decide)
    refine hK w4 _ 0 _ _ (by rw [e]; exact h4) (by rw [e]; exact st3.new hk4 (fun b (e : b = t4) => by omega)) (sl3.kp hk4 (fun b hb (q : b = t4) => by obtain ⟨l, hr⟩ := sl3.row hb; exact row_ne hr r43 (by decide) q)) (fun b hb => ⟨zs b hb, ?_⟩)
    rw [e]; exact nob b hb
  unfold s14_p8
  by_cases hc0 : code = 0
  · subst hc0
    simp only [beq_self_eq_true, e_fd, e_nck, e_pkt, e_pkf, e_gdtt, e_gdtf, e_gdft, e_gdff, e_ift, e_iff, e_not, e_ln, e_lnT, e_cp, e_cvi, e_ex20, e_ex21, e_ex30, e_ex31, e_ex32, e_add, e_sub, e_mul, e_quo, e_rem, e_and, e_or, e_xor, e_shl, e_shr, e_eql, e_neq, e_lss, e_leq, e_gtr, e_geq, e_beq, e_bne, e_peq1, e_peq2, e_pne1, e_pne2, e_zeq1, e_zeq2, e_zne1, e_zne2, e_feq1, e_fne1, e_feq2, e_fne2, e_seq, e_sne, e_ta1, e_ta2, Nat.zero_add, Nat.add_zero, Bool.not_true, Bool.not_false]
    unfold s14_p7
    try simp only [e_fd, e_nck, e_pkt, e_pkf, e_gdtt, e_gdtf, e_gdft, e_gdff, e_ift, e_iff, e_not, e_ln, e_lnT, e_cp, e_cvi, e_ex20, e_ex21, e_ex30, e_ex31, e_ex32, e_add, e_sub, e_mul, e_quo, e_rem, e_and, e_or, e_xor, e_shl, e_shr, e_eql, e_neq, e_lss, e_leq, e_gtr, e_geq, e_beq, e_bne, e_peq1, e_peq2, e_pne1, e_pne2, e_zeq1, e_zeq2, e_zne1, e_zne2, e_feq1, e_fne1, e_feq2, e_fne2, e_seq, e_sne, e_ta1, e_ta2, Nat.zero_add, Nat.add_zero, Bool.not_true, Bool.not_false]
    refine ld1_r r33 rfl ?_
    unfold s14_p6 u8
    try simp only [e_fd, e_nck, e_pkt, e_pkf, e_gdtt, e_gdtf, e_gdft, e_gdff, e_ift, e_iff, e_not, e_ln, e_lnT, e_cp, e_cvi, e_ex20, e_ex21, e_ex30, e_ex31, e_ex32, e_add, e_sub, e_mul, e_quo, e_rem, e_and, e_or, e_xor, e_shl, e_shr, e_eql, e_neq, e_lss, e_leq, e_gtr, e_geq, e_beq, e_bne, e_peq1, e_peq2, e_pne1, e_pne2, e_zeq1, e_zeq2, e_zne1, e_zne2, e_feq1, e_fne1, e_feq2, e_fne2, e_seq, e_sne, e_ta1, e_ta2, Nat.zero_add, Nat.add_zero, Bool.not_true, Bool.not_false]
    unfold s14_p5
    by_cases k2 : c.kind = 2
    · have e : (((c.kind : Nat) : Int) == 2) = true := by rw [k2]; rfl
      simp only [e, e_fd, e_nck, e_pkt, e_pkf, e_gdtt, e_gdtf, e_gdft, e_gdff, e_ift, e_iff, e_not, e_ln, e_lnT, e_cp, e_cvi, e_ex20, e_ex21, e_ex30, e_ex31, e_ex32, e_add, e_sub, e_mul, e_quo, e_rem, e_and, e_or, e_xor, e_shl, e_shr, e_eql, e_neq, e_lss, e_leq, e_gtr, e_geq, e_beq, e_bne, e_peq1, e_peq2, e_pne1, e_pne2, e_zeq1, e_zeq2, e_zne1, e_zne2, e_feq1, e_fne1, e_feq2, e_fne2, e_seq, e_sne, e_ta1, e_ta2, Nat.zero_add, Nat.add_zero, Bool.not_true, Bool.not_false]
      obtain ⟨i, hi, hid, hat⟩ := hal rfl k2
      have hbw := (h.ok.sh _ (List.getElem_mem hi)).1.bw1
      have ha3 := h3.arn
      have hpl : pl s.T c.pool = some s.T.ps[i] := by rw [hid]; exact pl_some hi
      have ef : ∀ nb, finS nb s 0 at_ c = ⟨tk (A0 s.A) s.T.ps[i].bw, s.T, s.L ++ [⟨c.pool, at_, nb, cut s.A at_ s.T.ps[i].bw⟩]⟩ := by
        intro nb; unfold finS; rw [if_pos rfl, if_pos k2, hpl]
      have kd : Kp (fun _ => False) w3 (drw w3) := kp_drw
      have h4 := h3.kp' kd
      refine ⟨fun w' => Row w' m.wdb 50 [P m.ab 0, P m.tb 0, m.md, m.lv] ∧ Row w' t3 33 (cac c) ∧ Row w' t5 41 (outV 0 id at_ q (sub64 s.A.st st0) m.M.sv), ⟨h4.row, kd.row' r33, kd.row' r53⟩, ?_⟩
      unfold s14_p2_d
      try simp only [e_fd, e_nck, e_pkt, e_pkf, e_gdtt, e_gdtf, e_gdft, e_gdff, e_ift, e_iff, e_not, e_ln, e_lnT, e_cp, e_cvi, e_ex20, e_ex21, e_ex30, e_ex31, e_ex32, e_add, e_sub, e_mul, e_quo, e_rem, e_and, e_or, e_xor, e_shl, e_shr, e_eql, e_neq, e_lss, e_leq, e_gtr, e_geq, e_beq, e_bne, e_peq1, e_peq2, e_pne1, e_pne2, e_zeq1, e_zeq2, e_zne1, e_zne2, e_feq1, e_fne1, e_feq2, e_fne2, e_seq, e_sne, e_ta1, e_ta2, Nat.zero_add, Nat.add_zero, Bool.not_true, Bool.not_false]
      refine ⟨m.lv, fun w' hJ => ld1_r hJ.1 rfl ⟨rfl, rfl⟩, ?_⟩
      refine ⟨I c.pool, fun w' hJ => ld1_r hJ.2.1 rfl ⟨rfl, rfl⟩, ?_⟩
      refine ⟨U32 at_, fun w' hJ => ld1_r hJ.2.2 rfl ⟨rfl, rfl⟩, ?_⟩
      refine ⟨I c.pool, fun w' hJ => ld1_r hJ.2.1 rfl ⟨rfl, rfl⟩, ?_⟩
      refine ⟨U32 at_, fun w' hJ => ld1_r hJ.2.2 rfl ⟨rfl, rfl⟩, ?_⟩
      rw [hid]
      refine read_ok h4.tbl h4.ok h4.arn h4.row rfl rfl hi hat fun w5 nb a5 r5n hnb hk5 => ?_
      have nab : ∀ {t b l}, Row (drw w3) b t l → t ≠ 114 → Row w5 b t l := fun hr ht => hk5.row hr (fun (q : _ = _) => row_ne hr h4.arn.row ht q)
      have sA5 : StA (drw w3) w5 m.ab { m.M with sv := nilS, sob := none } { m.M with sv := nilS, sob := none } := stA_ab hk5
      have h5 := h4.setA a5 sA5
      have st5 := (st3.new0 kd).setA sA5
      have hJ5 : Row w5 m.wdb 50 [P m.ab 0, P m.tb 0, m.md, m.lv] ∧ Row w5 t3 33 (cac c) ∧ Row w5 t5 41 (outV 0 id at_ q (sub64 s.A.st st0) m.M.sv) := ⟨h5.row, nab (kd.row' r33) (by decide), nab (kd.row' r53) (by decide)⟩
      refine ⟨hJ5, ?_⟩
      refine bdq_r (l := [I (i : Nat), U32 at_, .slice (some ⟨nb, 0, none⟩) s.T.ps[i].bw s.T.ps[i].bw]) rfl ?_
      refine ⟨hJ5, ?_⟩
      have ecl : (cut s.A at_ s.T.ps[i].bw).length = s.T.ps[i].bw := cut_len _ _ _
      have elb : lbV ⟨c.pool, at_, nb, cut s.A at_ s.T.ps[i].bw⟩ = [I (i : Nat), U32 at_, .slice (some ⟨nb, 0, none⟩) s.T.ps[i].bw s.T.ps[i].bw] := by
        unfold lbV; simp only [ecl, hid]
      have fill : fillL (zrep [(.int .i64 0), (.int .u32 0), (.slice none 0 0)] (1 * 3)) [(some (0, 3), .agg [I (i : Nat), U32 at_, .slice (some ⟨nb, 0, none⟩) s.T.ps[i].bw s.T.ps[i].bw].toArray)] = some (lbV ⟨c.pool, at_, nb, cut s.A at_ s.T.ps[i].bw⟩) := by rw [elb]; rfl
      refine bsq_and (K := fun _ w' => Row w' m.wdb 50 [P m.ab 0, P m.tb 0, m.md, m.lv] ∧ Row w' t3 33 (cac c) ∧ Row w' t5 41 (outV 0 id at_ q (sub64 s.A.st st0) m.M.sv)) (bsq_r fill fun w6 r6 hk6 hz6 => ⟨hk6.row' hJ5.1, hk6.row' hJ5.2.1, hk6.row' hJ5.2.2⟩) ?_
      have l5 : Sl lbV 3 w5 66 m.lob m.lv s.L := h5.live.sl
      refine l5.app lbV_len rfl ⟨c.pool, at_, nb, cut s.A at_ s.T.ps[i].bw⟩ rfl (by omega) (by omega) fill fun w6 lv6 lob6 sl6 hk6 ho6 => ?_
      have hlt5 := kd.size
      have hk5z := hk5.size
      have n6 : ∀ {t b l}, Row w5 b t l → t ≠ 66 → Row w6 b t l := fun hr ht => hk6.row hr (fun q => by obtain ⟨l', hr'⟩ := h5.live.sl.row q; exact row_ne hr hr' ht rfl)
      have row6 := n6 h5.row (by decide)
      refine st1_r row6 (show 3 < 4 by decide) (sl_scal sl6) fun w7 r7 hk7 hz7 => ?_
      have r7' : Row w7 m.wdb 50 [P m.ab 0, P m.tb 0, m.md, lv6] := r7
      have n7 : ∀ {t b l}, Row w5 b t l → t ≠ 66 → t ≠ 50 → Row w7 b t l := fun hr ht ht' => hk7.row (n6 hr ht) (fun (q : _ = _) => row_ne (n6 hr ht) row6 ht' q)
      have r47 := n7 (nab (kd.row' r43) (by decide)) (by decide) (by decide)
      have r57 := n7 hJ5.2.2 (by decide) (by decide)
      refine real_end r47 hl4 r57 hs3 fun w8 hk8 => ?_
      obtain ⟨junk, hj, hp⟩ := h5.tbl.pools
      have nt8 : ∀ {t b l}, Row w7 b t l → t ≠ 41 → Row w8 b t l := fun hr ht => hk8.row hr (fun (q : _ = _) => row_ne hr r47 ht q)
      have n8 : ∀ {t b l}, Row w5 b t l → t ≠ 66 → t ≠ 50 → t ≠ 41 → Row w8 b t l := fun hr h1 h2 h3 => nt8 (n7 hr h1 h2) h3
      have slob : ∀ b, lob6 = some b → (m.lob = some b ∨ w5.heap.size ≤ b) := by
        intro b hb
        rcases ho6 with q | ⟨b', q, hb'⟩
        · exact .inl (q ▸ hb)
        · rw [hb] at q; cases q; exact .inr hb'
      have sl8 : Sl lbV 3 w8 66 lob6 lv6 (s.L ++ [⟨c.pool, at_, nb, cut s.A at_ s.T.ps[i].bw⟩]) := by
        have a := sl6.kp hk7 (fun b hb (q : b = _) => by obtain ⟨l', hr'⟩ := sl6.row hb; exact row_ne hr' row6 (by decide) q)
        exact a.kp hk8 (fun b hb (q : b = _) => by obtain ⟨l', hr'⟩ := a.row hb; exact row_ne hr' r47 (by decide) q)
      have sd8 : Arn w8 m.ab { m.M with sv := nilS, sob := none } (tk (A0 s.A) s.T.ps[i].bw) := ⟨n8 a5.row (by decide) (by decide) (by decide), n8 a5.ws (by decide) (by decide) (by decide), ⟨rfl, rfl⟩, a5.rng, a5.st⟩
      have nbold : ∀ x ∈ s.L, x.b ≠ nb := fun x hx q => by have := (h4.live.rw x hx).lt; omega
      have wd8 : Wd w8 { m with M := { m.M with sv := nilS, sob := none }, lob := lob6, lv := lv6 } ⟨tk (A0 s.A) s.T.ps[i].bw, s.T, s.L ++ [⟨c.pool, at_, nb, cut s.A at_ s.T.ps[i].bw⟩]⟩ := by
        refine ⟨nt8 r7' (by decide), sd8, ⟨n8 h5.tbl.row (by decide) (by decide) (by decide), junk, hj, n8 hp (by decide) (by decide) (by decide)⟩, h.ok, ⟨sl8, fun x hx => ?_, ?_, fun x hx => ?_⟩, fun x hx => ?_⟩
        · rcases List.mem_append.1 hx with hx | hx
          · exact n8 (h5.live.rw x hx) (by decide) (by decide) (by decide)
          · rw [List.mem_singleton] at hx
            subst hx
            exact n8 r5n (by decide) (by decide) (by decide)
        · rw [List.map_append, List.nodup_append]
          refine ⟨h5.live.nd, by simp, ?_⟩
          intro a ha b hb
          rw [List.mem_map] at ha
          obtain ⟨x, hx, rfl⟩ := ha
          simp only [List.map_cons, List.map_nil, List.mem_singleton] at hb
          subst hb
          exact nbold x hx
        · rcases List.mem_append.1 hx with hx | hx
          · exact h5.live.rng x hx
          · rw [List.mem_singleton] at hx
            subst hx
            refine ⟨fun v hv => ?_, by show 1 ≤ (cut s.A at_ s.T.ps[i].bw).length; omega, by show (cut s.A at_ s.T.ps[i].bw).length ≤ 4096; omega, by show at_ < 4294967296; omega⟩
            have hv' : v ∈ cut s.A at_ s.T.ps[i].bw := hv
            unfold cut at hv'
            rw [List.mem_map] at hv'
            obtain ⟨k, hk, rfl⟩ := hv'
            rw [List.mem_range] at hk
            exact h.arn.rng _ (by omega)
        · rcases List.mem_append.1 hx with hx | hx
          · exact h5.nwb x hx
          · rw [List.mem_singleton] at hx
            subst hx
            have := (h4.arn.ws).lt
            show nb ≠ m.M.wb
            have : m.M.wb < (drw w3).heap.size := this
            omega
      have zW := st3.kp.size
      have zd : (drw w3).heap.size = w3.heap.size := rfl
      have stf : StW W w8 m0 L0 { m with M := { m.M with sv := nilS, sob := none }, lob := lob6, lv := lv6 } (s.L ++ [⟨c.pool, at_, nb, cut s.A at_ s.T.ps[i].bw⟩]) := by
        have k68 : Kp (fun b => m.lob = some b ∨ b = m.wdb ∨ b = t4) w5 w8 := ((hk6.mono fun b _ q => .inl q).then hk7 (fun b _ q => .inr (.inl q))).then hk8 (fun b _ q => .inr (.inr q))
        refine st5.step k68 (fun b q => ?_) (fun b q => ?_) rfl rfl rfl
        · rcases q with q | q | q
          · exact .inl (.inr (.inr (.inr (.inr (.inl q)))))
          · exact .inl (.inl q)
          · exact .inr (by omega)
        · rcases q with q | q | q | q | q | ⟨x, hx, q⟩
          · exact .inl (.inl q)
          · exact .inl (.inr (.inl q))
          · exact .inl (.inr (.inr (.inl q)))
          · exact .inl (.inr (.inr (.inr (.inl q))))
          · rcases slob b q with q | q
            · exact .inl (.inr (.inr (.inr (.inr (.inl q)))))
            · exact .inr (by omega)
          · rcases List.mem_append.1 hx with hx | hx
            · exact .inl (.inr (.inr (.inr (.inr (.inr ⟨x, hx, q⟩)))))
            · rw [List.mem_singleton] at hx
              subst hx
              exact .inr (by have : nb = b := q; omega)
      have sv8 : Sl u1 1 w8 31 m.M.sob m.M.sv s.A.sd := by
        have a5' := (sl3.kp' kd).kp hk5 (fun b hb (q : b = _) => by obtain ⟨l', hr'⟩ := (sl3.kp' kd).row hb; exact row_ne hr' h4.arn.row (by decide) q)
        have a6 := a5'.kp hk6 (fun b hb q => by obtain ⟨l', hr'⟩ := a5'.row hb; obtain ⟨l2, hr2⟩ := h5.live.sl.row q; exact row_ne hr' hr2 (by decide) rfl)
        have a7 := a6.kp hk7 (fun b hb (q : b = _) => by obtain ⟨l', hr'⟩ := a6.row hb; exact row_ne hr' row6 (by decide) q)
        exact a7.kp hk8 (fun b hb (q : b = _) => by obtain ⟨l', hr'⟩ := a7.row hb; exact row_ne hr' r47 (by decide) q)
      refine hK w8 _ nb _ _ (by rw [ef]; exact wd8) (by rw [ef]; exact stf) sv8 (fun b hb => ⟨zs b hb, ?_⟩)
      rw [ef]
      intro qq
      have lb := lt0 b hb
      obtain ⟨l3, hr3⟩ := sl3.row hb
      rcases qq with qq | qq | qq | qq | qq | ⟨x, hx, qq⟩
      · exact nob b hb (.inl qq)
      · exact nob b hb (.inr (.inl qq))
      · exact nob b hb (.inr (.inr (.inl qq)))
      · exact nob b hb (.inr (.inr (.inr (.inl qq))))
      · rcases slob b qq with qq | qq
        · exact nob b hb (.inr (.inr (.inr (.inr (.inl qq)))))
        · omega
      · rcases List.mem_append.1 hx with hx | hx
        · exact nob b hb (.inr (.inr (.inr (.inr (.inr ⟨x, hx, qq⟩)))))
        · rw [List.mem_singleton] at hx
          subst hx
          have : nb = b := qq
          omega
    · have e : (((c.kind : Nat) : Int) == 2) = false := by rw [beq_eq_false_iff_ne]; omega
      simp only [e, e_fd, e_nck, e_pkt, e_pkf, e_gdtt, e_gdtf, e_gdft, e_gdff, e_ift, e_iff, e_not, e_ln, e_lnT, e_cp, e_cvi, e_ex20, e_ex21, e_ex30, e_ex31, e_ex32, e_add, e_sub, e_mul, e_quo, e_rem, e_and, e_or, e_xor, e_shl, e_shr, e_eql, e_neq, e_lss, e_leq, e_gtr, e_geq, e_beq, e_bne, e_peq1, e_peq2, e_pne1, e_pne2, e_zeq1, e_zeq2, e_zne1, e_zne2, e_feq1, e_fne1, e_feq2, e_fne2, e_seq, e_sne, e_ta1, e_ta2, Nat.zero_add, Nat.add_zero, Bool.not_true, Bool.not_false]
      unfold s14_p4
      have rel : (c.kind = 3 ∨ c.kind = 4) → s14_p3 K (P m.wdb 0) (P t3 0) (P t4 0) (P t5 0) (.bool true) w3 := by
        intro hk
        unfold s14_p3
        try simp only [e_fd, e_nck, e_pkt, e_pkf, e_gdtt, e_gdtf, e_gdft, e_gdff, e_ift, e_iff, e_not, e_ln, e_lnT, e_cp, e_cvi, e_ex20, e_ex21, e_ex30, e_ex31, e_ex32, e_add, e_sub, e_mul, e_quo, e_rem, e_and, e_or, e_xor, e_shl, e_shr, e_eql, e_neq, e_lss, e_leq, e_gtr, e_geq, e_beq, e_bne, e_peq1, e_peq2, e_pne1, e_pne2, e_zeq1, e_zeq2, e_zne1, e_zne2, e_feq1, e_fne1, e_feq2, e_fne2, e_seq, e_sne, e_ta1, e_ta2, Nat.zero_add, Nat.add_zero, Bool.not_true, Bool.not_false]
        refine ld1_r r33 rfl ?_
        refine forget_ok (L := s.L) h3.row h3.live (by omega) fun w4 lv4 row4 live4 hk4 => ?_
        have ef : ∀ nb, finS nb s 0 at_ c = ⟨A0 s.A, s.T, forgetL s.L c.at_⟩ := by
          intro nb; unfold finS; rw [if_pos rfl, if_neg k2, if_pos hk]
        have nl : ∀ {t b l}, Row w3 b t l → t ≠ 66 → t ≠ 50 → Row w4 b t l := fun hr h1 h2 => hk4.row hr (fun q => by
          rcases q with q | q
          · exact row_ne hr h3.row h2 q
          · obtain ⟨l', hr'⟩ := h3.live.sl.row q; exact row_ne hr hr' h1 rfl)
        have r44 := nl r43 (by decide) (by decide)
        have r54 := nl r53 (by decide) (by decide)
        refine real_end r44 hl4 r54 hs3 fun w5 hk5 => ?_
        obtain ⟨junk, hj, hp⟩ := h3.tbl.pools
        have n5 : ∀ {t b l}, Row w4 b t l → t ≠ 41 → Row w5 b t l := fun hr ht => hk5.row hr (fun (q : _ = _) => row_ne hr r44 ht q)
        have n35 : ∀ {t b l}, Row w3 b t l → t ≠ 66 → t ≠ 50 → t ≠ 41 → Row w5 b t l := fun hr h1 h2 h3 => n5 (nl hr h1 h2) h3
        have ha3 := h3.arn
        have wd5 : Wd w5 { m with M := { m.M with sv := nilS, sob := none }, lv := lv4 } ⟨A0 s.A, s.T, forgetL s.L c.at_⟩ := by
          refine ⟨n5 row4 (by decide), ⟨n35 ha3.row (by decide) (by decide) (by decide), n35 ha3.ws (by decide) (by decide) (by decide), ⟨rfl, rfl⟩, ha3.rng, ha3.st⟩, ⟨n35 h3.tbl.row (by decide) (by decide) (by decide), junk, hj, n35 hp (by decide) (by decide) (by decide)⟩, h.ok, ?_, fun x hx => h3.nwb x (forget_mem hx)⟩
          refine live4.kp hk5 (fun b hb (q : b = _) => ?_) (fun x hx (q : x.b = _) => ?_)
          · obtain ⟨l', hr'⟩ := live4.sl.row hb; exact row_ne hr' r44 (by decide) q
          · exact row_ne (live4.rw x hx) r44 (by decide) q
        have own5 : ∀ b, OwnW { m with M := { m.M with sv := nilS, sob := none }, lv := lv4 } (forgetL s.L c.at_) b → OwnW { m with M := { m.M with sv := nilS, sob := none } } s.L b := by
          rintro b (q | q | q | q | q | ⟨x, hx, q⟩)
          · exact .inl q
          · exact .inr (.inl q)
          · exact .inr (.inr (.inl q))
          · exact .inr (.inr (.inr (.inl q)))
          · exact .inr (.inr (.inr (.inr (.inl q))))
          · exact .inr (.inr (.inr (.inr (.inr ⟨x, forget_mem hx, q⟩))))
        have k35 : Kp (fun b => (b = m.wdb ∨ m.lob = some b) ∨ b = t4) w3 w5 := (hk4.mono fun b _ q => .inl q).then hk5 (fun b _ q => .inr q)
        have hC : ∀ b, ((b = m.wdb ∨ m.lob = some b) ∨ b = t4) → OwnW { m with M := { m.M with sv := nilS, sob := none } } s.L b ∨ W.heap.size ≤ b := by
          rintro b ((q | q) | q)
          · exact .inl (.inl q)
          · exact .inl (.inr (.inr (.inr (.inr (.inl q)))))
          · exact .inr (by omega)
        refine hK w5 _ 0 _ _ (by rw [ef]; exact wd5) (by rw [ef]; exact st3.step k35 hC (fun b q => .inl (own5 b q)) rfl rfl rfl) ?_ (fun b hb => ⟨zs b hb, ?_⟩)
        · have a4 := sl3.kp hk4 (fun b hb q => by
            obtain ⟨l', hr'⟩ := sl3.row hb
            rcases q with q | q
            · exact row_ne hr' h3.row (by decide) q
            · obtain ⟨l2, hr2⟩ := h3.live.sl.row q; exact row_ne hr' hr2 (by decide) rfl)
          exact a4.kp hk5 (fun b hb (q : b = _) => by obtain ⟨l', hr'⟩ := a4.row hb; exact row_ne hr' r44 (by decide) q)
        · rw [ef]
          exact fun qq => nob b hb (own5 b qq)
      try simp only [e_fd, e_nck, e_pkt, e_pkf, e_gdtt, e_gdtf, e_gdft, e_gdff, e_ift, e_iff, e_not, e_ln, e_lnT, e_cp, e_cvi, e_ex20, e_ex21, e_ex30, e_ex31, e_ex32, e_add, e_sub, e_mul, e_quo, e_rem, e_and, e_or, e_xor, e_shl, e_shr, e_eql, e_neq, e_lss, e_leq, e_gtr, e_geq, e_beq, e_bne, e_peq1, e_peq2, e_pne1, e_pne2, e_zeq1, e_zeq2, e_zne1, e_zne2, e_feq1, e_fne1, e_feq2, e_fne2, e_seq, e_sne, e_ta1, e_ta2, Nat.zero_add, Nat.add_zero, Bool.not_true, Bool.not_false]
      by_cases k3 : c.kind = 3
      · have e : (((c.kind : Nat) : Int) == 3) = true := by rw [k3]; rfl
        simp only [e, e_fd, e_nck, e_pkt, e_pkf, e_gdtt, e_gdtf, e_gdft, e_gdff, e_ift, e_iff, e_not, e_ln, e_lnT, e_cp, e_cvi, e_ex20, e_ex21, e_ex30, e_ex31, e_ex32, e_add, e_sub, e_mul, e_quo, e_rem, e_and, e_or, e_xor, e_shl, e_shr, e_eql, e_neq, e_lss, e_leq, e_gtr, e_geq, e_beq, e_bne, e_peq1, e_peq2, e_pne1, e_pne2, e_zeq1, e_zeq2, e_zne1, e_zne2, e_feq1, e_fne1, e_feq2, e_fne2, e_seq, e_sne, e_ta1, e_ta2, Nat.zero_add, Nat.add_zero, Bool.not_true, Bool.not_false]
        exact rel (.inl k3)
      · have e : (((c.kind : Nat) : Int) == 3) = false := by rw [beq_eq_false_iff_ne]; omega
        simp only [e, e_fd, e_nck, e_pkt, e_pkf, e_gdtt, e_gdtf, e_gdft, e_gdff, e_ift, e_iff, e_not, e_ln, e_lnT, e_cp, e_cvi, e_ex20, e_ex21, e_ex30, e_ex31, e_ex32, e_add, e_sub, e_mul, e_quo, e_rem, e_and, e_or, e_xor, e_shl, e_shr, e_eql, e_neq, e_lss, e_leq, e_gtr, e_geq, e_beq, e_bne, e_peq1, e_peq2, e_pne1, e_pne2, e_zeq1, e_zeq2, e_zne1, e_zne2, e_feq1, e_fne1, e_feq2, e_fne2, e_seq, e_sne, e_ta1, e_ta2, Nat.zero_add, Nat.add_zero, Bool.not_true, Bool.not_false]
        by_cases k4 : c.kind = 4
        · have e : (((c.kind : Nat) : Int) == 4) = true := by rw [k4]; rfl
          simp only [e, e_fd, e_nck, e_pkt, e_pkf, e_gdtt, e_gdtf, e_gdft, e_gdff, e_ift, e_iff, e_not, e_ln, e_lnT, e_cp, e_cvi, e_ex20, e_ex21, e_ex30, e_ex31, e_ex32, e_add, e_sub, e_mul, e_quo, e_rem, e_and, e_or, e_xor, e_shl, e_shr, e_eql, e_neq, e_lss, e_leq, e_gtr, e_geq, e_beq, e_bne, e_peq1, e_peq2, e_pne1, e_pne2, e_zeq1, e_zeq2, e_zne1, e_zne2, e_feq1, e_fne1, e_feq2, e_fne2, e_seq, e_sne, e_ta1, e_ta2, Nat.zero_add, Nat.add_zero, Bool.not_true, Bool.not_false]
          exact rel (.inr k4)
        · have e : (((c.kind : Nat) : Int) == 4) = false := by rw [beq_eq_false_iff_ne]; omega
          simp only [e, e_fd, e_nck, e_pkt, e_pkf, e_gdtt, e_gdtf, e_gdft, e_gdff, e_ift, e_iff, e_not, e_ln, e_lnT, e_cp, e_cvi, e_ex20, e_ex21, e_ex30, e_ex31, e_ex32, e_add, e_sub, e_mul, e_quo, e_rem, e_and, e_or, e_xor, e_shl, e_shr, e_eql, e_neq, e_lss, e_leq, e_gtr, e_geq, e_beq, e_bne, e_peq1, e_peq2, e_pne1, e_pne2, e_zeq1, e_zeq2, e_zne1, e_zne2, e_feq1, e_fne1, e_feq2, e_fne2, e_seq, e_sne, e_ta1, e_ta2, Nat.zero_add, Nat.add_zero, Bool.not_true, Bool.not_false]
          unfold s14_p3
          try simp only [e_fd, e_nck, e_pkt, e_pkf, e_gdtt, e_gdtf, e_gdft, e_gdff, e_ift, e_iff, e_not, e_ln, e_lnT, e_cp, e_cvi, e_ex20, e_ex21, e_ex30, e_ex31, e_ex32, e_add, e_sub, e_mul, e_quo, e_rem, e_and, e_or, e_xor, e_shl, e_shr, e_eql, e_neq, e_lss, e_leq, e_gtr, e_geq, e_beq, e_bne, e_peq1, e_peq2, e_pne1, e_pne2, e_zeq1, e_zeq2, e_zne1, e_zne2, e_feq1, e_fne1, e_feq2, e_fne2, e_seq, e_sne, e_ta1, e_ta2, Nat.zero_add, Nat.add_zero, Bool.not_true, Bool.not_false]
          refine plain ?_
          unfold finS; rw [if_pos rfl, if_neg k2, if_neg (by omega)]
  · have e : (code == 0) = false := by rw [beq_eq_false_iff_ne]; exact hc0
    simp only [e, e_fd, e_nck, e_pkt, e_pkf, e_gdtt, e_gdtf, e_gdft, e_gdff, e_ift, e_iff, e_not, e_ln, e_lnT, e_cp, e_cvi, e_ex20, e_ex21, e_ex30, e_ex31, e_ex32, e_add, e_sub, e_mul, e_quo, e_rem, e_and, e_or, e_xor, e_shl, e_shr, e_eql, e_neq, e_lss, e_leq, e_gtr, e_geq, e_beq, e_bne, e_peq1, e_peq2, e_pne1, e_pne2, e_zeq1, e_zeq2, e_zne1, e_zne2, e_feq1, e_fne1, e_feq2, e_fne2, e_seq, e_sne, e_ta1, e_ta2, Nat.zero_add, Nat.add_zero, Bool.not_true, Bool.not_false]
    refine plain ?_
    unfold finS; rw [if_neg hc0]
end
end Go.Proofs.Qxb6500893aDoor
