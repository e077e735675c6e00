import Derived.Test.Qxb6500896aGreatK17
namespace Go.Proofs.Qxb6500896aGreat
open Go.Sh Go.RowKit
set_option linter.unusedVariables false
set_option linter.unusedSimpArgs false

/-- make([]T, 0, n) -/
theorem mks_0 {α : Type} {f : α → List Value} {k : Nat} {e : TypeId} {z : List Value} {by_ : Nat} {n : Nat} {K : Value → World → Prop} {w : World} (hz : z.length = k) (hb : by_ * n ≤ 281474976710656) (hn : n ≤ 9223372036854775807)
    (hK : ∀ w1, Sl f k w1 e (some w.heap.size) (.slice (some ⟨w.heap.size, 0, none⟩) 0 n) [] → Kp Emp w w1 → w1.heap.size = w.heap.size + 1 → K (.slice (some ⟨w.heap.size, 0, none⟩) 0 n) w1) : mks e z by_ (.int .i64 0) (.int .i64 (n : Nat)) K w := by
  refine ⟨⟨by omega, by omega, ?_, by omega⟩, ?_⟩
  · have : ((by_ * n : Nat) : Int) ≤ 281474976710656 := by omega
    simpa using this
  · have e1 : ((n : Int)).toNat = n := by omega
    have e0 : ((0 : Int)).toNat = 0 := rfl
    simp only [e1, e0]
    refine hK _ ⟨n, zrep z (n * z.length), rfl, Nat.zero_le _, ?_, ?_⟩ (kp_alloc _) (by simp)
    · simp [zrep, hz]
    · have := Row.new w e (zrep z (n * z.length))
      simpa [rows] using this
section
variable {F M M' S : Nat → Prop} {w w' w1 : World} {v rv : Value} {l : List Value} {n wb e : Nat} {lobs : List (Option Nat)} {C : Cfg} {ls : List (List Int)} {K : Value → World → Prop} {m : Me} {σ : Sg} {J : Jr}
theorem line_ok {i : Nat} (h : Li M w n wb lobs C ls) (hi : i < ls.length) (hK : ∀ w' v' b, Sl iC 1 w' 3 (some b) v' ls[i] → Nb w w' b → Kp Emp w w' → K v' w') : cl Tryz.prog 164 #[P n 0, I (i : Nat)] K w := by
  obtain ⟨cl, its, r, hc, h1, h2, h3, h4, h5⟩ := h.ex
  have hcl := hc.len
  have hil : its.length = ls.length := by rw [← h1, List.length_map]
  have hlen := h.len
  have hev := h.each _ (List.getElem_mem hi)
  have hi2 : i < its.length := by omega
  have ei : its[i].ids = ls[i] := by
    have : (its.map Lm.ids)[i]? = ls[i]? := by rw [h1]
    rw [List.getElem?_map, List.getElem?_eq_getElem hi2, List.getElem?_eq_getElem hi] at this
    exact Option.some.inj this
  apply c164
  unfold s164_p1
  refine Sl.empty (f := iC) (k := 1) fun w1 s1 hk1 hz1 => ?_
  try simp only [e_fd, e_nck, e_pkt, e_pkf, e_gdtt, e_gdtf, e_gdft, e_gdff, e_ift, e_iff, e_not, e_ln, e_lnT, e_cp, e_cvi, e_ex20, e_ex21, e_ex30, e_ex31, e_ex32, e_add, e_sub, e_mul, e_quo, e_rem, e_and, e_or, e_xor, e_shl, e_shr, e_eql, e_neq, e_lss, e_leq, e_gtr, e_geq, e_beq, e_bne, e_peq1, e_peq2, e_pne1, e_pne2, e_zeq1, e_zeq2, e_zne1, e_zne2, e_feq1, e_fne1, e_feq2, e_fne2, e_seq, e_sne, e_ta1, e_ta2, Nat.zero_add, Nat.add_zero, Bool.not_true, Bool.not_false]
  refine ld1_r (v := .slice (some ⟨wb, 0, none⟩) ls.length ls.length) (hk1.row' r) (by rw [List.getElem?_append_right (by omega), hcl]; rfl) ?_
  refine ⟨⟨by omega, by omega⟩, ?_⟩
  have e0 : ((i : Nat) : Int).toNat * 1 = i := by omega
  rw [e0, add_mk, Nat.zero_add]
  refine ld1_r (v := its[i].val) (hk1.row' h3) (by rw [List.getElem?_map, List.getElem?_eq_getElem hi2]; rfl) ?_
  have hs := (h4 _ (List.getElem_mem hi2)).1.kp' hk1
  rw [ei] at hs
  refine Sl.app3 iC_len rfl (fun _ _ => iC_sc _) s1 (hs.rds iC_len) (by simp; omega) (by simp; omega) fun w2 v2 ob2 s2 hk2 ho2 => ?_
  rw [List.nil_append] at s2
  have k2 : Kp Emp w w2 := hk1.then hk2 fun k hk q => by cases q; omega
  rcases ho2 with q | ⟨b2, q, hb2⟩
  · subst q
    exact hK w2 v2 _ s2 ⟨Nat.le_refl _, s2.lt⟩ k2
  · subst q
    exact hK w2 v2 b2 s2 ⟨by omega, s2.lt⟩ k2
/-- records fresh in memory -/
def Rf (w0 w : World) (rob : Option Nat) (rv : Value) (rs : List Rec) : Prop :=
  ∃ its : List (Rec × Value), its.map (·.1) = rs ∧ Sl rC 7 w 85 rob rv its ∧ (∀ b, rob = some b → w0.heap.size ≤ b) ∧ ∀ p ∈ its, ∃ b, Sl lC 2 w 88 (some b) p.2 p.1.legs ∧ w0.heap.size ≤ b
theorem Rf.kp {w0 : World} {rob : Option Nat} {rs : List Rec} (h : Rf w0 w rob rv rs) (hk : Kp S w w') (hS : ∀ b, S b → b < w.heap.size → w0.heap.size ≤ b → False) : Rf w0 w' rob rv rs := by
  obtain ⟨its, h1, h2, h3, h4⟩ := h
  refine ⟨its, h1, h2.kp hk (fun b e q => ?_), h3, fun p hp => ?_⟩
  · subst e; exact hS b q h2.lt (h3 b rfl)
  · obtain ⟨b, s, hb⟩ := h4 p hp
    exact ⟨b, s.kp hk (fun b' e q => by cases e; exact hS _ q s.lt hb), hb⟩
theorem Rf.kpT {w0 : World} {rob : Option Nat} {rs : List Rec} {x : Nat} {T : TypeId} {lx : List Value} (h : Rf w0 w rob rv rs) (hk : Kp (fun b => b = x) w w') (hr : Row w x T lx) (h1 : T ≠ 85) (h2 : T ≠ 88) : Rf w0 w' rob rv rs := by
  obtain ⟨its, e1, e2, e3, e4⟩ := h
  refine ⟨its, e1, e2.kp hk (fun b e (q : b = x) => ?_), e3, fun p hp => ?_⟩
  · obtain ⟨l, hl⟩ := e2.row e
    exact row_ne hr hl h1 q.symm
  · obtain ⟨b, s, hb⟩ := e4 p hp
    refine ⟨b, s.kp hk (fun b' e (q : b' = x) => ?_), hb⟩
    obtain ⟨l, hl⟩ := s.row e
    exact row_ne hr hl h2 q.symm
theorem Rf.ri {w0 : World} {rob : Option Nat} {rs : List Rec} (h : Rf w0 w rob rv rs) (hM : ∀ b, M b → b < w0.heap.size) (hl : rs.length ≤ 16777216) (hll : ∀ r ∈ rs, r.legs.length ≤ 1000000) : Ri M w rv rs := by
  obtain ⟨its, h1, h2, h3, h4⟩ := h
  have hil : its.length = rs.length := by rw [← h1, List.length_map]
  refine ⟨its, h1, h2.ar rC_len (by omega) (fun b e => ?_), fun p hp => ?_⟩
  · subst e
    exact ⟨fun q => by have := hM b q; have := h3 b rfl; omega, h2.lt⟩
  · obtain ⟨b, s, hb⟩ := h4 p hp
    have := hll p.1 (by rw [← h1]; exact List.mem_map_of_mem hp)
    refine s.ar lC_len (by omega) (fun b' e => ?_)
    cases e
    exact ⟨fun q => by have := hM _ q; omega, s.lt⟩
theorem image_ok (h : En M w e m C σ J) (hC : Cok C) (hll : ∀ r ∈ σ.rs, r.legs.length ≤ 1000000) (hal : σ.ls.length = C.ats.length)
    (hK : ∀ w' rv lv, Kp Emp w w' → Ri M w' rv σ.rs → Rws (Im M w') w' lv σ.ls → K (.agg (imC (fp C) σ.seq σ.now rv lv).toArray) w') : cl Tryz.prog 117 #[P e 0] K w := by
  obtain ⟨va, vt, env, r, hc, _, _⟩ := h.ex
  have hca := hC.a
  have htl := h.tb.len
  have hc0 := hc
  obtain ⟨va', vt', eq, ha, _⟩ := hc.ex
  have eva : va' = va := by
    unfold Cfg.cells at eq
    simp only [List.cons.injEq] at eq
    exact eq.1.symm
  subst eva
  apply c117
  unfold s117_p12
  refine nw_r fun w1 r1 hk1 hz1 => ?_
  unfold s117_p11 s117_p11_d
  have kd : Kp Emp w1 (drw w1) := kp_drw
  have szd : (drw w1).heap.size = w1.heap.size := rfl
  generalize drw w1 = w2 at kd szd ⊢
  have k2 := hk1.trans kd
  have r2 := k2.row' r
  try simp only [e_fd, e_nck, e_pkt, e_pkf, e_gdtt, e_gdtf, e_gdft, e_gdff, e_ift, e_iff, e_not, e_ln, e_lnT, e_cp, e_cvi, e_ex20, e_ex21, e_ex30, e_ex31, e_ex32, e_add, e_sub, e_mul, e_quo, e_rem, e_and, e_or, e_xor, e_shl, e_shr, e_eql, e_neq, e_lss, e_leq, e_gtr, e_geq, e_beq, e_bne, e_peq1, e_peq2, e_pne1, e_pne2, e_zeq1, e_zeq2, e_zne1, e_zne2, e_feq1, e_fne1, e_feq2, e_fne2, e_seq, e_sne, e_ta1, e_ta2, Nat.zero_add, Nat.add_zero, Bool.not_true, Bool.not_false]
  refine ldn_r r2 (show 0 + 14 ≤ _ by simp [Cfg.cells, Sg.cells]) ?_
  have e14 : ((C.cells va' vt ++ σ.cells m env).drop 0).take 14 = C.cells va' vt := by rw [List.drop_zero]; rfl
  rw [e14]
  try simp only [e_fd, e_nck, e_pkt, e_pkf, e_gdtt, e_gdtf, e_gdft, e_gdff, e_ift, e_iff, e_not, e_ln, e_lnT, e_cp, e_cvi, e_ex20, e_ex21, e_ex30, e_ex31, e_ex32, e_add, e_sub, e_mul, e_quo, e_rem, e_and, e_or, e_xor, e_shl, e_shr, e_eql, e_neq, e_lss, e_leq, e_gtr, e_geq, e_beq, e_bne, e_peq1, e_peq2, e_pne1, e_pne2, e_zeq1, e_zeq2, e_zne1, e_zne2, e_feq1, e_fne1, e_feq2, e_fne2, e_seq, e_sne, e_ta1, e_ta2, Nat.zero_add, Nat.add_zero, Bool.not_true, Bool.not_false]
  refine ld1_r r2 rfl ?_
  try simp only [e_fd, e_nck, e_pkt, e_pkf, e_gdtt, e_gdtf, e_gdft, e_gdff, e_ift, e_iff, e_not, e_ln, e_lnT, e_cp, e_cvi, e_ex20, e_ex21, e_ex30, e_ex31, e_ex32, e_add, e_sub, e_mul, e_quo, e_rem, e_and, e_or, e_xor, e_shl, e_shr, e_eql, e_neq, e_lss, e_leq, e_gtr, e_geq, e_beq, e_bne, e_peq1, e_peq2, e_pne1, e_pne2, e_zeq1, e_zeq2, e_zne1, e_zne2, e_feq1, e_fne1, e_feq2, e_fne2, e_seq, e_sne, e_ta1, e_ta2, Nat.zero_add, Nat.add_zero, Bool.not_true, Bool.not_false]
  refine ld1_r r2 rfl ?_
  -- the rest, whatever the order was
  have rest : ∀ w3 ib, Kp Emp w w3 → w1.heap.size ≤ ib → Row w3 w.heap.size 152 (imC 0 0 0 nilS nilS) → Row w3 ib 152 (imC (fp C) σ.seq σ.now nilS nilS) → s117_p10 K (P e 0) (P w.heap.size 0) (P ib 0) w3 := by
    intro w3 ib k3 hib rz r3
    have h3 := h.kp' k3
    have hne3 : ¬ w.heap.size = ib := by omega
    unfold s117_p10
    try simp only [e_fd, e_nck, e_pkt, e_pkf, e_gdtt, e_gdtf, e_gdft, e_gdff, e_ift, e_iff, e_not, e_ln, e_lnT, e_cp, e_cvi, e_ex20, e_ex21, e_ex30, e_ex31, e_ex32, e_add, e_sub, e_mul, e_quo, e_rem, e_and, e_or, e_xor, e_shl, e_shr, e_eql, e_neq, e_lss, e_leq, e_gtr, e_geq, e_beq, e_bne, e_peq1, e_peq2, e_pne1, e_pne2, e_zeq1, e_zeq2, e_zne1, e_zne2, e_feq1, e_fne1, e_feq2, e_fne2, e_seq, e_sne, e_ta1, e_ta2, Nat.zero_add, Nat.add_zero, Bool.not_true, Bool.not_false]
    refine ld1_r (v := P m.t 0) (k3.row' r) rfl ?_
    refine len_ok h3.tb ?_
    refine mks_0 (f := rC) (k := 7) rfl (by omega) (by omega) fun w4 s4 hk4 hz4 => ?_
    try simp only [e_fd, e_nck, e_pkt, e_pkf, e_gdtt, e_gdtf, e_gdft, e_gdff, e_ift, e_iff, e_not, e_ln, e_lnT, e_cp, e_cvi, e_ex20, e_ex21, e_ex30, e_ex31, e_ex32, e_add, e_sub, e_mul, e_quo, e_rem, e_and, e_or, e_xor, e_shl, e_shr, e_eql, e_neq, e_lss, e_leq, e_gtr, e_geq, e_beq, e_bne, e_peq1, e_peq2, e_pne1, e_pne2, e_zeq1, e_zeq2, e_zne1, e_zne2, e_feq1, e_fne1, e_feq2, e_fne2, e_seq, e_sne, e_ta1, e_ta2, Nat.zero_add, Nat.add_zero, Bool.not_true, Bool.not_false]
    have ib4 := r3.lt
    refine st1_r (hk4.row' r3) (show 3 < 5 by decide) rfl fun w5 r5 hk5 hz5 => ?_
    have k5 : Kp Emp w w5 := (k3.trans hk4).then hk5 fun k hk (q : k = _) => by omega
    have s5 := s4.kp hk5 (fun b e (q : b = _) => by cases e; omega)
    have rz5 := hk5.row (hk4.row' rz) hne3
    unfold s117_p9
    have sz3 := k3.size
    refine loop_n σ.rs.length (fun i l w' => ∃ rob rv, l = [P e 0, P w.heap.size 0, P ib 0, I ((i + 1 : Nat) : Int)] ∧ Kp Emp w w' ∧ w5.heap.size ≤ w'.heap.size ∧ Row w' w.heap.size 152 (imC 0 0 0 nilS nilS) ∧ Row w' ib 152 (imC (fp C) σ.seq σ.now rv nilS) ∧ Rf w3 w' rob rv (σ.rs.take i)) ?_ ?_ ?_
    · exact ⟨some w3.heap.size, _, rfl, k5, Nat.le_refl _, rz5, r5, [], rfl, s5, (fun b e => by cases e; exact Nat.le_refl _), (fun p hp => by cases hp)⟩
    · rintro i l w6 hi ⟨rob, rv, rfl, k6, sz6, rz6, r6, hf6⟩ B hB
      have h6 := h.kp' k6
      rw [s117_p9_Fe]
      unfold s117_p8
      try simp only [e_fd, e_nck, e_pkt, e_pkf, e_gdtt, e_gdtf, e_gdft, e_gdff, e_ift, e_iff, e_not, e_ln, e_lnT, e_cp, e_cvi, e_ex20, e_ex21, e_ex30, e_ex31, e_ex32, e_add, e_sub, e_mul, e_quo, e_rem, e_and, e_or, e_xor, e_shl, e_shr, e_eql, e_neq, e_lss, e_leq, e_gtr, e_geq, e_beq, e_bne, e_peq1, e_peq2, e_pne1, e_pne2, e_zeq1, e_zeq2, e_zne1, e_zne2, e_feq1, e_fne1, e_feq2, e_fne2, e_seq, e_sne, e_ta1, e_ta2, Nat.zero_add, Nat.add_zero, Bool.not_true, Bool.not_false]
      refine ld1_r (v := P m.t 0) (k6.row' r) rfl ?_
      refine len_ok h6.tb ?_
      have e1 : ((i + 1 : Nat) : Int) ≤ ((σ.rs.length : Nat) : Int) := by omega
      simp only [e1, decide_true, e_fd, e_nck, e_pkt, e_pkf, e_gdtt, e_gdtf, e_gdft, e_gdff, e_ift, e_iff, e_not, e_ln, e_lnT, e_cp, e_cvi, e_ex20, e_ex21, e_ex30, e_ex31, e_ex32, e_add, e_sub, e_mul, e_quo, e_rem, e_and, e_or, e_xor, e_shl, e_shr, e_eql, e_neq, e_lss, e_leq, e_gtr, e_geq, e_beq, e_bne, e_peq1, e_peq2, e_pne1, e_pne2, e_zeq1, e_zeq2, e_zne1, e_zne2, e_feq1, e_fne1, e_feq2, e_fne2, e_seq, e_sne, e_ta1, e_ta2, Nat.zero_add, Nat.add_zero, Bool.not_true, Bool.not_false]
      refine ld1_r (v := P m.t 0) (k6.row' r) rfl ?_
      refine get_ok (.inr ⟨by omega, by omega⟩) h6.tb hll (fun hn => absurd ⟨by omega, by omega⟩ hn) (fun i' hi' hid w7 lv7 b7 hk7 hnb7 s7 => ?_)
      obtain rfl : i' = i := by omega
      have k7 := k6.trans hk7
      have sz7 := hk7.size
      try simp only [e_fd, e_nck, e_pkt, e_pkf, e_gdtt, e_gdtf, e_gdft, e_gdff, e_ift, e_iff, e_not, e_ln, e_lnT, e_cp, e_cvi, e_ex20, e_ex21, e_ex30, e_ex31, e_ex32, e_add, e_sub, e_mul, e_quo, e_rem, e_and, e_or, e_xor, e_shl, e_shr, e_eql, e_neq, e_lss, e_leq, e_gtr, e_geq, e_beq, e_bne, e_peq1, e_peq2, e_pne1, e_pne2, e_zeq1, e_zeq2, e_zne1, e_zne2, e_feq1, e_fne1, e_feq2, e_fne2, e_seq, e_sne, e_ta1, e_ta2, Nat.zero_add, Nat.add_zero, Bool.not_true, Bool.not_false]
      refine nw_r fun w8 r8 hk8 hz8 => ?_
      refine stn_r (cs := rC (σ.rs[i'], lv7)) r8 rfl (show 0 + 7 ≤ 7 by decide) (rC_sc (sl_scal s7)) fun w9 r9 hk9 hz9 => ?_
      replace r9 : Row w9 w7.heap.size 85 (rC (σ.rs[i'], lv7)) := r9
      have k79 : Kp Emp w7 w9 := hk8.then hk9 fun k hk (q : k = _) => by omega
      have k9 := k7.trans k79
      have k69 := hk7.trans k79
      have s9 := s7.kp' k79
      try simp only [e_fd, e_nck, e_pkt, e_pkf, e_gdtt, e_gdtf, e_gdft, e_gdff, e_ift, e_iff, e_not, e_ln, e_lnT, e_cp, e_cvi, e_ex20, e_ex21, e_ex30, e_ex31, e_ex32, e_add, e_sub, e_mul, e_quo, e_rem, e_and, e_or, e_xor, e_shl, e_shr, e_eql, e_neq, e_lss, e_leq, e_gtr, e_geq, e_beq, e_bne, e_peq1, e_peq2, e_pne1, e_pne2, e_zeq1, e_zeq2, e_zne1, e_zne2, e_feq1, e_fne1, e_feq2, e_fne2, e_seq, e_sne, e_ta1, e_ta2, Nat.zero_add, Nat.add_zero, Bool.not_true, Bool.not_false]
      refine ld1_r (v := rv) (k69.row' r6) rfl ?_
      refine ldn_r r9 (show 0 + 7 ≤ 7 by decide) ?_
      refine bsq_r (l := rC (σ.rs[i'], lv7)) rfl fun w10 r10 hk10 hz10 => ?_
      have hf10 : Rf w3 w10 rob rv (σ.rs.take i') := hf6.kp (k69.trans hk10) (fun b q _ _ => q)
      obtain ⟨its, f1, f2, f3, f4⟩ := hf10
      have hitl : its.length = i' := by rw [← List.length_map (f := (·.1)), f1, List.length_take]; omega
      have hrd : Rds rC 7 w10 (.slice (some ⟨w9.heap.size, 0, none⟩) 1 1) [(σ.rs[i'], lv7)] := (Ar.row (F := fun _ => True) (xs := [(σ.rs[i'], lv7)]) rC_len (by simpa [rows] using r10) trivial (by simp)).rds rC_len
      refine Sl.app3 rC_len rfl (fun y hy => by rw [List.mem_singleton] at hy; rw [hy]; exact rC_sc (sl_scal s7)) f2 hrd (by simp; omega) (by simp; omega) fun w11 v11 ob11 s11 hk11 ho11 => ?_
      have sz9 := k79.size
      have lb : ∀ b, rob = some b → w3.heap.size ≤ b := f3
      have k11 : Kp Emp w w11 := (k9.trans hk10).then hk11 fun k hk q => by have := lb k q; omega
      have ne1 : ∀ b, b < w3.heap.size → ¬ rob = some b := fun b hb q => by have := lb b q; omega
      have r11 := hk11.row (hk10.row' (k69.row' r6)) (ne1 ib ib4)
      have rz11 := hk11.row (hk10.row' (k69.row' rz6)) (ne1 w.heap.size (by have := rz.lt; omega))
      try simp only [e_fd, e_nck, e_pkt, e_pkf, e_gdtt, e_gdtf, e_gdft, e_gdff, e_ift, e_iff, e_not, e_ln, e_lnT, e_cp, e_cvi, e_ex20, e_ex21, e_ex30, e_ex31, e_ex32, e_add, e_sub, e_mul, e_quo, e_rem, e_and, e_or, e_xor, e_shl, e_shr, e_eql, e_neq, e_lss, e_leq, e_gtr, e_geq, e_beq, e_bne, e_peq1, e_peq2, e_pne1, e_pne2, e_zeq1, e_zeq2, e_zne1, e_zne2, e_feq1, e_fne1, e_feq2, e_fne2, e_seq, e_sne, e_ta1, e_ta2, Nat.zero_add, Nat.add_zero, Bool.not_true, Bool.not_false]
      refine st1_r r11 (show 3 < 5 by decide) (sl_scal s11) fun w12 r12 hk12 hz12 => ?_
      have lb11 : ∀ b, ob11 = some b → w3.heap.size ≤ b := fun b q => by
        rcases ho11 with e | ⟨b', e, hb'⟩
        · exact lb b (e ▸ q)
        · rw [e] at q; cases q; omega
      rw [inc (i' + 1) (by omega)]
      refine hB _ _ ⟨ob11, v11, rfl, k11.then hk12 (fun k hk (q : k = _) => by omega), by have := hk11.size; omega, hk12.row rz11 hne3, r12, its ++ [(σ.rs[i'], lv7)], ?_, s11.kp hk12 (fun b q (e : b = _) => by have := lb11 b q; omega), lb11, fun p hp => ?_⟩
      · rw [List.map_append, f1, List.take_succ_eq_append_getElem hi]; rfl
      · have kp12 : ∀ {b : Nat} {pv : Value} {lg : List Leg}, Sl lC 2 w10 88 (some b) pv lg → w3.heap.size ≤ b → Sl lC 2 w12 88 (some b) pv lg := fun {b pv lg} s hb => by
          refine (s.kp hk11 (fun b' e q => ?_)).kp hk12 (fun b' e (q : b' = _) => by cases e; omega)
          cases e
          obtain ⟨l1, hl1⟩ := f2.row q
          obtain ⟨l2, hl2⟩ := s.row rfl
          exact row_ne hl1 hl2 (by decide) rfl
        rcases List.mem_append.1 hp with q | q
        · obtain ⟨b, s, hb⟩ := f4 p q
          exact ⟨b, kp12 s hb, hb⟩
        · rw [List.mem_singleton] at q
          rw [q]
          exact ⟨b7, kp12 (s9.kp' hk10) (by have := hnb7.1; omega), by have := hnb7.1; omega⟩
    · rintro l w6 ⟨rob, rv, rfl, k6, sz6, rz6, r6, hf6⟩ B
      have h6 := h.kp' k6
      rw [s117_p9_Fe]
      unfold s117_p8
      try simp only [e_fd, e_nck, e_pkt, e_pkf, e_gdtt, e_gdtf, e_gdft, e_gdff, e_ift, e_iff, e_not, e_ln, e_lnT, e_cp, e_cvi, e_ex20, e_ex21, e_ex30, e_ex31, e_ex32, e_add, e_sub, e_mul, e_quo, e_rem, e_and, e_or, e_xor, e_shl, e_shr, e_eql, e_neq, e_lss, e_leq, e_gtr, e_geq, e_beq, e_bne, e_peq1, e_peq2, e_pne1, e_pne2, e_zeq1, e_zeq2, e_zne1, e_zne2, e_feq1, e_fne1, e_feq2, e_fne2, e_seq, e_sne, e_ta1, e_ta2, Nat.zero_add, Nat.add_zero, Bool.not_true, Bool.not_false]
      refine ld1_r (v := P m.t 0) (k6.row' r) rfl ?_
      refine len_ok h6.tb ?_
      have e1 : ¬ ((σ.rs.length + 1 : Nat) : Int) ≤ ((σ.rs.length : Nat) : Int) := by omega
      simp only [e1, decide_false, e_fd, e_nck, e_pkt, e_pkf, e_gdtt, e_gdtf, e_gdft, e_gdff, e_ift, e_iff, e_not, e_ln, e_lnT, e_cp, e_cvi, e_ex20, e_ex21, e_ex30, e_ex31, e_ex32, e_add, e_sub, e_mul, e_quo, e_rem, e_and, e_or, e_xor, e_shl, e_shr, e_eql, e_neq, e_lss, e_leq, e_gtr, e_geq, e_beq, e_bne, e_peq1, e_peq2, e_pne1, e_pne2, e_zeq1, e_zeq2, e_zne1, e_zne2, e_feq1, e_fne1, e_feq2, e_fne2, e_seq, e_sne, e_ta1, e_ta2, Nat.zero_add, Nat.add_zero, Bool.not_true, Bool.not_false]
      rw [List.take_length] at hf6
      unfold s117_p7
      try simp only [e_fd, e_nck, e_pkt, e_pkf, e_gdtt, e_gdtf, e_gdft, e_gdff, e_ift, e_iff, e_not, e_ln, e_lnT, e_cp, e_cvi, e_ex20, e_ex21, e_ex30, e_ex31, e_ex32, e_add, e_sub, e_mul, e_quo, e_rem, e_and, e_or, e_xor, e_shl, e_shr, e_eql, e_neq, e_lss, e_leq, e_gtr, e_geq, e_beq, e_bne, e_peq1, e_peq2, e_pne1, e_pne2, e_zeq1, e_zeq2, e_zne1, e_zne2, e_feq1, e_fne1, e_feq2, e_fne2, e_seq, e_sne, e_ta1, e_ta2, Nat.zero_add, Nat.add_zero, Bool.not_true, Bool.not_false]
      refine ld1_r (v := va') (k6.row' r) rfl ?_
      refine ha.ln ?_
      rw [← hal]
      refine mks_r (n := σ.ls.length) (by omega) (by omega) fun w7 r7 hk7 hz7 => ?_
      try simp only [e_fd, e_nck, e_pkt, e_pkf, e_gdtt, e_gdtf, e_gdft, e_gdff, e_ift, e_iff, e_not, e_ln, e_lnT, e_cp, e_cvi, e_ex20, e_ex21, e_ex30, e_ex31, e_ex32, e_add, e_sub, e_mul, e_quo, e_rem, e_and, e_or, e_xor, e_shl, e_shr, e_eql, e_neq, e_lss, e_leq, e_gtr, e_geq, e_beq, e_bne, e_peq1, e_peq2, e_pne1, e_pne2, e_zeq1, e_zeq2, e_zne1, e_zne2, e_feq1, e_fne1, e_feq2, e_fne2, e_seq, e_sne, e_ta1, e_ta2, Nat.zero_add, Nat.add_zero, Bool.not_true, Bool.not_false]
      refine st1_r (hk7.row' r6) (show 4 < 5 by decide) rfl fun w8 r8 hk8 hz8 => ?_
      replace r8 : Row w8 ib 152 (imC (fp C) σ.seq σ.now rv (.slice (some ⟨w6.heap.size, 0, none⟩) σ.ls.length σ.ls.length)) := r8
      have k8 : Kp Emp w w8 := (k6.trans hk7).then hk8 fun k hk (q : k = _) => by omega
      have rz8 := hk8.row (hk7.row' rz6) hne3
      have r78 := hk8.row r7 (show ¬ w6.heap.size = ib by have := r6.lt; omega)
      have hf8 : Rf w3 w8 rob rv σ.rs := (hf6.kp hk7 (fun b q _ _ => q)).kp hk8 (fun b (q : b = _) _ hb => by omega)
      try simp only [e_fd, e_nck, e_pkt, e_pkf, e_gdtt, e_gdtf, e_gdft, e_gdff, e_ift, e_iff, e_not, e_ln, e_lnT, e_cp, e_cvi, e_ex20, e_ex21, e_ex30, e_ex31, e_ex32, e_add, e_sub, e_mul, e_quo, e_rem, e_and, e_or, e_xor, e_shl, e_shr, e_eql, e_neq, e_lss, e_leq, e_gtr, e_geq, e_beq, e_bne, e_peq1, e_peq2, e_pne1, e_pne2, e_zeq1, e_zeq2, e_zne1, e_zne2, e_feq1, e_fne1, e_feq2, e_fne2, e_seq, e_sne, e_ta1, e_ta2, Nat.zero_add, Nat.add_zero, Bool.not_true, Bool.not_false]
      refine ld1_r r8 rfl ?_
      try simp only [e_fd, e_nck, e_pkt, e_pkf, e_gdtt, e_gdtf, e_gdft, e_gdff, e_ift, e_iff, e_not, e_ln, e_lnT, e_cp, e_cvi, e_ex20, e_ex21, e_ex30, e_ex31, e_ex32, e_add, e_sub, e_mul, e_quo, e_rem, e_and, e_or, e_xor, e_shl, e_shr, e_eql, e_neq, e_lss, e_leq, e_gtr, e_geq, e_beq, e_bne, e_peq1, e_peq2, e_pne1, e_pne2, e_zeq1, e_zeq2, e_zne1, e_zne2, e_feq1, e_fne1, e_feq2, e_fne2, e_seq, e_sne, e_ta1, e_ta2, Nat.zero_add, Nat.add_zero, Bool.not_true, Bool.not_false]
      unfold s117_p6
      generalize hlv : (Value.slice (some ⟨w6.heap.size, 0, none⟩) σ.ls.length σ.ls.length) = lvv at r8
      refine loop_n σ.ls.length (fun i l w' => ∃ done : List Value, l = [P e 0, P w.heap.size 0, P ib 0, I (σ.ls.length : Nat), I (i : Nat)] ∧ Kp Emp w w' ∧ w8.heap.size ≤ w'.heap.size ∧ Row w' w.heap.size 152 (imC 0 0 0 nilS nilS) ∧ Row w' ib 152 (imC (fp C) σ.seq σ.now rv lvv) ∧ Rf w3 w' rob rv σ.rs ∧ done.length = i ∧ Row w' w6.heap.size 79 (done ++ List.replicate (σ.ls.length - i) nilS) ∧ (∀ j (h1 : j < done.length) (h2 : j < σ.ls.length), ∃ b, Sl iC 1 w' 3 (some b) done[j] σ.ls[j] ∧ w8.heap.size ≤ b)) ?_ ?_ ?_
      · exact ⟨[], rfl, k8, Nat.le_refl _, rz8, r8, hf8, rfl, r78, fun j h1 => by simp at h1⟩
      · rintro i l w9 hi ⟨done, rfl, k9, sz9, rz9, r9, hf9, hdl, rt, hd⟩ B2 hB2
        have h9 := h.kp' k9
        rw [s117_p6_Fe]
        unfold s117_p5
        simp only [dlt hi, e_fd, e_nck, e_pkt, e_pkf, e_gdtt, e_gdtf, e_gdft, e_gdff, e_ift, e_iff, e_not, e_ln, e_lnT, e_cp, e_cvi, e_ex20, e_ex21, e_ex30, e_ex31, e_ex32, e_add, e_sub, e_mul, e_quo, e_rem, e_and, e_or, e_xor, e_shl, e_shr, e_eql, e_neq, e_lss, e_leq, e_gtr, e_geq, e_beq, e_bne, e_peq1, e_peq2, e_pne1, e_pne2, e_zeq1, e_zeq2, e_zne1, e_zne2, e_feq1, e_fne1, e_feq2, e_fne2, e_seq, e_sne, e_ta1, e_ta2, Nat.zero_add, Nat.add_zero, Bool.not_true, Bool.not_false]
        unfold s117_p4 s117_p3 s117_p3_d
        have kd9 : Kp Emp w9 (drw w9) := kp_drw
        have szd9 : (drw w9).heap.size = w9.heap.size := rfl
        generalize drw w9 = w10 at kd9 szd9 ⊢
        have k10 := k9.trans kd9
        try simp only [e_fd, e_nck, e_pkt, e_pkf, e_gdtt, e_gdtf, e_gdft, e_gdff, e_ift, e_iff, e_not, e_ln, e_lnT, e_cp, e_cvi, e_ex20, e_ex21, e_ex30, e_ex31, e_ex32, e_add, e_sub, e_mul, e_quo, e_rem, e_and, e_or, e_xor, e_shl, e_shr, e_eql, e_neq, e_lss, e_leq, e_gtr, e_geq, e_beq, e_bne, e_peq1, e_peq2, e_pne1, e_pne2, e_zeq1, e_zeq2, e_zne1, e_zne2, e_feq1, e_fne1, e_feq2, e_fne2, e_seq, e_sne, e_ta1, e_ta2, Nat.zero_add, Nat.add_zero, Bool.not_true, Bool.not_false]
        refine ld1_r (kd9.row' r9) rfl ?_
        try simp only [e_fd, e_nck, e_pkt, e_pkf, e_gdtt, e_gdtf, e_gdft, e_gdff, e_ift, e_iff, e_not, e_ln, e_lnT, e_cp, e_cvi, e_ex20, e_ex21, e_ex30, e_ex31, e_ex32, e_add, e_sub, e_mul, e_quo, e_rem, e_and, e_or, e_xor, e_shl, e_shr, e_eql, e_neq, e_lss, e_leq, e_gtr, e_geq, e_beq, e_bne, e_peq1, e_peq2, e_pne1, e_pne2, e_zeq1, e_zeq2, e_zne1, e_zne2, e_feq1, e_fne1, e_feq2, e_fne2, e_seq, e_sne, e_ta1, e_ta2, Nat.zero_add, Nat.add_zero, Bool.not_true, Bool.not_false]
        refine ld1_r (v := P m.n 0) (k10.row' r) rfl ?_
        subst hlv
        refine ⟨⟨by omega, by omega⟩, ?_⟩
        have e0 : ((i : Nat) : Int).toNat * 1 = i := by omega
        rw [e0, add_mk, Nat.zero_add]
        refine line_ok (h.kp' k10).li hi fun w11 v11 b11 s11 hnb11 hk11 => ⟨hk11.below', ?_⟩
        have kk := kd9.trans hk11
        have sz11 := hk11.size
        have rt11 := kk.row' rt
        refine st1_r rt11 (by rw [List.length_append, List.length_replicate]; omega) (sl_scal s11) fun w12 r12 hk12 hz12 => ?_
        have e12 : (done ++ List.replicate (σ.ls.length - i) nilS).set i v11 = (done ++ [v11]) ++ List.replicate (σ.ls.length - (i + 1)) nilS := by
          rw [List.set_append_right _ _ (by omega), hdl, Nat.sub_self, show σ.ls.length - i = (σ.ls.length - (i + 1)) + 1 by omega, List.replicate_succ, List.set_cons_zero, List.append_assoc]
          rfl
        rw [e12] at r12
        unfold s117_p2
        try simp only [e_fd, e_nck, e_pkt, e_pkf, e_gdtt, e_gdtf, e_gdft, e_gdff, e_ift, e_iff, e_not, e_ln, e_lnT, e_cp, e_cvi, e_ex20, e_ex21, e_ex30, e_ex31, e_ex32, e_add, e_sub, e_mul, e_quo, e_rem, e_and, e_or, e_xor, e_shl, e_shr, e_eql, e_neq, e_lss, e_leq, e_gtr, e_geq, e_beq, e_bne, e_peq1, e_peq2, e_pne1, e_pne2, e_zeq1, e_zeq2, e_zne1, e_zne2, e_feq1, e_fne1, e_feq2, e_fne2, e_seq, e_sne, e_ta1, e_ta2, Nat.zero_add, Nat.add_zero, Bool.not_true, Bool.not_false]
        rw [inc i (by have := h.li.len; omega)]
        have sz6' := k6.size
        have ib6 := r6.lt
        have rz6' := rz6.lt
        refine hB2 _ _ ⟨done ++ [v11], rfl, (k9.trans kk).then hk12 (fun k hk (q : k = _) => by omega), by omega, hk12.row (kk.row' rz9) (by omega), hk12.row (kk.row' r9) (by omega), (hf9.kp kk (fun b q _ _ => q)).kpT hk12 rt11 (by decide) (by decide), by simp [hdl], r12, fun j h1 h2 => ?_⟩
        · rw [List.length_append, List.length_singleton] at h1
          rcases Nat.lt_or_ge j done.length with q | q
          · obtain ⟨b, s, hb⟩ := hd j q h2
            rw [List.getElem_append_left q]
            exact ⟨b, (s.kp' kk).kp hk12 (fun b' e (q : b' = _) => by cases e; omega), hb⟩
          · obtain rfl : j = i := by omega
            rw [List.getElem_append_right (by omega)]
            simp only [hdl, Nat.sub_self, List.getElem_cons_zero]
            exact ⟨b11, s11.kp hk12 (fun b' e (q : b' = _) => by cases e; have := hnb11.1; omega), by have := hnb11.1; omega⟩
      · rintro l w9 ⟨done, rfl, k9, sz9, rz9, r9, hf9, hdl, rt, hd⟩ B2
        rw [s117_p6_Fe]
        unfold s117_p5
        simp only [dnlt, e_fd, e_nck, e_pkt, e_pkf, e_gdtt, e_gdtf, e_gdft, e_gdff, e_ift, e_iff, e_not, e_ln, e_lnT, e_cp, e_cvi, e_ex20, e_ex21, e_ex30, e_ex31, e_ex32, e_add, e_sub, e_mul, e_quo, e_rem, e_and, e_or, e_xor, e_shl, e_shr, e_eql, e_neq, e_lss, e_leq, e_gtr, e_geq, e_beq, e_bne, e_peq1, e_peq2, e_pne1, e_pne2, e_zeq1, e_zeq2, e_zne1, e_zne2, e_feq1, e_fne1, e_feq2, e_fne2, e_seq, e_sne, e_ta1, e_ta2, Nat.zero_add, Nat.add_zero, Bool.not_true, Bool.not_false]
        unfold s117_p1
        refine ldn_r r9 (show 0 + 5 ≤ 5 by decide) ?_
        have sc9 : (imC (fp C) σ.seq σ.now rv lvv).all scal = true := by
          obtain ⟨its, _, f2, _⟩ := hf9
          subst hlv
          unfold imC
          simp only [List.all_cons, sl_scal f2]
          rfl
        refine stn_r (cs := imC (fp C) σ.seq σ.now rv lvv) rz9 rfl (show 0 + 5 ≤ 5 by decide) sc9 fun w10 r10 hk10 hz10 => ?_
        replace r10 : Row w10 w.heap.size 152 (imC (fp C) σ.seq σ.now rv lvv) := r10
        refine ldn_r r10 (show 0 + 5 ≤ 5 by decide) ?_
        have k10 : Kp Emp w w10 := k9.then hk10 fun k hk (q : k = _) => by omega
        have hM3 : ∀ b, M b → b < w3.heap.size := fun b q => by have := h.lt b q; omega
        have zlt := rz.lt
        refine hK w10 rv lvv k10 ((hf9.kp hk10 (fun b (q : b = _) _ hb => by omega)).ri hM3 (by omega) hll) ?_
        rw [Nat.sub_self, List.replicate_zero, List.append_nil] at rt
        have sz8 := k6.size
        subst hlv
        refine ⟨done, ?_, by omega, fun j h1 h2 => ?_⟩
        · have := Ar.row (xs := done) (F := Im M w10) (k := 1) one_len (by rw [rows_one]; exact hk10.row rt (by omega)) ⟨fun q => by have := hM3 _ q; omega, by have := rt.lt; omega⟩ (by have := h.li.len; omega)
          rw [hdl] at this
          exact this
        · obtain ⟨b, s, hb⟩ := hd j h1 h2
          have hev := h.li.each _ (List.getElem_mem h2)
          refine (s.kp hk10 (fun b' e (q : b' = _) => by cases e; omega)).ar iC_len (by omega) (fun b' e => ?_)
          cases e
          exact ⟨fun q => by have := hM3 _ q; omega, by have := s.lt; omega⟩
  have hz : ∀ {w'}, Kp Emp w1 w' → Row w' w.heap.size 152 (imC 0 0 0 nilS nilS) := fun hk => hk.row' r1
  refine ⟨?_, ?_⟩
  · refine fingerprint_ok (hc0.kp' k2) hC fun w3 hk3 => ⟨hk3.below', ?_⟩
    have k3 := k2.trans hk3
    have sz3 := hk3.size
    refine ⟨?_, ?_⟩
    · refine bdq_r (l := imC (fp C) σ.seq σ.now nilS nilS) rfl ?_
      refine nw_r fun w4 r4 hk4 hz4 => ⟨(hk3.trans hk4).below', ?_⟩
      refine stn_r (cs := imC (fp C) σ.seq σ.now nilS nilS) r4 rfl (show 0 + 5 ≤ 5 by decide) rfl fun w5 r5 hk5 hz5 => ?_
      refine rest w5 w3.heap.size ((k3.trans hk4).then hk5 fun k hk (q : k = _) => by omega) (by omega) (hk5.row (hz ((kd.trans hk3).trans hk4)) (by omega)) r5
    · refine nw_r fun w4 r4 hk4 hz4 => ⟨(hk3.trans hk4).below', ?_⟩
      refine bdq_r (l := imC (fp C) σ.seq σ.now nilS nilS) rfl ?_
      refine stn_r (cs := imC (fp C) σ.seq σ.now nilS nilS) r4 rfl (show 0 + 5 ≤ 5 by decide) rfl fun w5 r5 hk5 hz5 => ?_
      refine rest w5 w3.heap.size ((k3.trans hk4).then hk5 fun k hk (q : k = _) => by omega) (by omega) (hk5.row (hz ((kd.trans hk3).trans hk4)) (by omega)) r5
  · refine nw_r fun w3 r3 hk3 hz3 => ⟨hk3.below', ?_⟩
    refine fingerprint_ok (hc0.kp' (k2.trans hk3)) hC fun w4 hk4 => ⟨(hk3.trans hk4).below', ?_⟩
    have sz4 := hk4.size
    refine bdq_r (l := imC (fp C) σ.seq σ.now nilS nilS) rfl ?_
    refine stn_r (cs := imC (fp C) σ.seq σ.now nilS nilS) (hk4.row' r3) rfl (show 0 + 5 ≤ 5 by decide) rfl fun w5 r5 hk5 hz5 => ?_
    refine rest w5 w2.heap.size (((k2.trans hk3).trans hk4).then hk5 fun k hk (q : k = _) => by omega) (by omega) (hk5.row (hz ((kd.trans hk3).trans hk4)) (by omega)) r5
end
end Go.Proofs.Qxb6500896aGreat
