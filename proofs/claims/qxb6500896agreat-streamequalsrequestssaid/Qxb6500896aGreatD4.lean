import Derived.Test.Qxb6500896aGreatD3
namespace Go.Proofs.Qxb6500896aGreat
open Go.Sh Go.RowKit
set_option linter.unusedVariables false
set_option linter.unusedSimpArgs false

theorem map_set_fst {its : List (Rec × Value)} {rs : List Rec} {j : Nat} {p : Rec × Value} (h : its.map (·.1) = rs) : (its.set j p).map (·.1) = rs.set j p.1 := by
  rw [List.map_set, h]
/-- one of a line goes -/
theorem ln_remove {l : List Int} {k : Nat} (h : l.Pairwise (· < ·)) (hk : k < l.length) : l.filter (· != l[k]) = l.take k ++ l.drop (k + 1) := by
  have e : l = l.take k ++ l[k] :: l.drop (k + 1) := by rw [← List.drop_eq_getElem_cons hk, List.take_append_drop]
  generalize l[k] = x at e ⊢
  generalize l.take k = p at e ⊢
  generalize l.drop (k + 1) = q at e ⊢
  subst e
  rw [List.pairwise_append] at h
  obtain ⟨_, h2, h3⟩ := h
  rw [List.pairwise_cons] at h2
  rw [List.filter_append, List.filter_cons]
  have e1 : p.filter (· != x) = p := List.filter_eq_self.2 fun y hy => by have := h3 y hy x List.mem_cons_self; rw [bne_iff_ne]; omega
  have e2 : q.filter (· != x) = q := List.filter_eq_self.2 fun y hy => by have := h2.1 y hy; rw [bne_iff_ne]; omega
  rw [e1, e2]
  simp
theorem lnOf_rem {ls : List (List Int)} {id : Int} {a : Nat} : lnOf (tRemove id ls) ((a : Nat) : Int) = (lnOf ls ((a : Nat) : Int)).filter (· != id) := by
  unfold lnOf tRemove
  rw [List.getElem?_map]
  cases ls[(((a : Nat) : Int)).toNat]? <;> rfl
section
variable {V V' V1 S F : Nat → Prop} {W w w' w1 w2 : World} {fv v rv iv lv : Value} {ans : Rq → List Int} {Z : (Nat → Prop) → World → Prop} {X : List (Nat × TypeId × List Value)} {K : Value → World → Prop} {c : Nat} {rob iob : Option Nat} {s : SrvS} {line : List Int} {B1 B2 B3 B4 : List Value → World → Prop} {t3 t4 t5 t7 t12 t18 t20 t21 t22 t40 t41 t42 t80 t81 t91 t92 t93 : Value} {seq now x id : Int} {cf a j b k : Nat} {cc : List Value}
/-- the line without one of its ids -/
theorem cut_ok (hlv : Ar iC 1 F w lv line) (hll : line.length ≤ 1000000) (hk : k < line.length) (hF : ∀ b, F b → b < w.heap.size)
    (hK : ∀ w' lv' lob, Kp Emp w w' → Sl iC 1 w' 3 (some lob) lv' (line.take k ++ line.drop (k + 1)) → w.heap.size ≤ lob → B3 [t3, t4, t5, t7, rv, t12, iv, I (a : Nat), lv', .bool true, t40, t41, t42, t80, t81] w') :
    s8_p13 K B1 B2 B3 B4 t3 t4 t5 t7 rv t12 iv (I (a : Nat)) lv (I (k : Nat)) t40 t41 t42 t80 t81 w := by
  unfold s8_p13
  refine ⟨fun _ => True, trivial, ?_⟩
  unfold s8_p13_d
  have kd : Kp Emp w (drw w) := kp_drw
  generalize drw w = w1 at kd ⊢
  have s1 := kd.size
  simp only [e_add]
  rw [inc k (by omega)]
  obtain ⟨v1, a1, q1⟩ := ar_subE hlv (lo := 0) (hi := k) (Nat.zero_le _) (by omega) (lov := none) (hiv := some (I (k : Nat))) rfl rfl
  obtain ⟨v2, a2, q2⟩ := ar_subE hlv (lo := k + 1) (hi := line.length) (by omega) (Nat.le_refl _) (lov := some (I ((k + 1 : Nat) : Int))) (hiv := none) rfl rfl
  simp only [q1, q2, and_self]
  rw [List.drop_zero, Nat.sub_zero] at a1
  rw [List.take_of_length_le (by rw [List.length_drop]; exact Nat.le_refl _)] at a2
  unfold s8_p12
  have a1' := a1.kp' kd
  have a2' := a2.kp' kd
  have l1 : (line.take k).length = k := by rw [List.length_take]; omega
  have l2 : (line.drop (k + 1)).length ≤ line.length := by rw [List.length_drop]; omega
  refine Sl.empty (f := iC) (k := 1) (e := 3) fun w2 sl2 hk2 hz2 => ?_
  refine Sl.app3 (f := iC) (k := 1) iC_len rfl (fun _ _ => rfl) sl2 ((a1'.kp' hk2).rds iC_len) (by rw [l1, List.length_nil]; omega) (by rw [l1, List.length_nil]; omega) fun w3 v3 ob3 sl3 hk3 ho3 => ?_
  rw [List.nil_append] at sl3
  have a2'' : Ar iC 1 F w3 v2 (line.drop (k + 1)) := (a2'.kp' hk2).kp hk3 fun b hb e => by cases e; have := hF _ hb; omega
  refine Sl.app3 (f := iC) (k := 1) iC_len rfl (fun _ _ => rfl) sl3 (a2''.rds iC_len) (by omega) (by omega) fun w4 v4 ob4 sl4 hk4 ho4 => ?_
  have s2 := hk2.size
  have s3 := hk3.size
  have hb3 : ∃ c, ob3 = some c ∧ w1.heap.size ≤ c := by
    rcases ho3 with q | ⟨c, q, hc⟩
    · exact ⟨_, q, Nat.le_refl _⟩
    · exact ⟨c, q, by omega⟩
  obtain ⟨c3, rfl, hc3⟩ := hb3
  have hb4 : ∃ c, ob4 = some c ∧ w1.heap.size ≤ c := by
    rcases ho4 with q | ⟨c, q, hc⟩
    · exact ⟨_, q, hc3⟩
    · exact ⟨c, q, by omega⟩
  obtain ⟨c4, rfl, hc4⟩ := hb4
  have k14 : Kp Emp w1 w4 := (hk2.then hk3 fun b hb e => by cases e; omega).then hk4 fun b hb e => by cases e; omega
  exact hK w4 v4 c4 (kd.trans k14) sl4 (by omega)
set_option maxHeartbeats 2000000 in
/-- one is served -/
theorem iss_step (srv : Srv W fv ans Z) (h : Sb Z X rv rob V w iv iob s) (g : Gd park seq now s.rs s.ls) (hlv : Ar iC 1 (Fz V rob iob) w lv line) (hll : line.length ≤ 1000000) (hil : s.iss.length ≤ 1000000) (hk : k < line.length) (hb : rob = some b) (hj : j < s.rs.length) (hid : id = ((j + 1 : Nat) : Int)) (h7 : s.rs[j].st = 7) (hln : s.rs[j].ln = ((a : Nat) : Int) + 1)
    (hK : ∀ w' V' lv' iv' iob', Sb Z X rv rob V' w' iv' iob' ⟨(tIssue id x s.rs).1, tRemove id s.ls, s.iss ++ [⟨id, x⟩]⟩ → (∀ b, V b → V' b) → Ar iC 1 (Fz V' rob iob') w' lv' (line.take k ++ line.drop (k + 1)) → Ky (Fz V rob iob) w w' → B3 [t3, t4, t5, t7, rv, t12, iv', I (a : Nat), lv', .bool true, t40, t41, t42, t80, t81] w') :
    s8_p14 K B1 B2 B3 B4 t3 t4 t5 t7 rv t12 iv (I (a : Nat)) lv (I (k : Nat)) (I id) (P b (j * 7)) (I x) t40 t41 t42 t80 t81 w := by
  have hlt := srv.lt h.z
  have hlen := g.len
  have hmb : park.mb = 26 := rfl
  rw [hmb] at hlen
  have hne := h.ne hb
  have hVb := h.rV b hb
  have hblt := hlt b hVb
  unfold s8_p14
  refine bdq_r leg_fill ?_
  refine leg_new fun w1 a1 k1 hz1 => ?_
  have h1 := h.emp srv k1
  obtain ⟨its, e1, e2, e3⟩ := h1.recs
  subst hb
  have hil2 : its.length = s.rs.length := by rw [← e1, List.length_map]
  have hj2 : j < its.length := by omega
  have ei : its[j].1 = s.rs[j] := by
    have : (its.map (·.1))[j]? = s.rs[j]? := by rw [e1]
    rw [List.getElem?_map, List.getElem?_eq_getElem hj2, List.getElem?_eq_getElem hj] at this
    exact Option.some.inj this
  refine nk1 (fdo ?_)
  refine sl_upd (i := j) (j := 1) (y := ({ its[j].1 with st := 8 }, its[j].2)) e2 rC_len hj2 (by decide) rfl rfl fun w2 sl2 hk2 hz2 => ?_
  refine nk1 (fdo ?_)
  have hj3 : j < (its.set j ({ its[j].1 with st := 8 }, its[j].2)).length := by rw [List.length_set]; exact hj2
  refine sl_upd (i := j) (j := 6) (y := ({ its[j].1 with st := 8, legs := [⟨((a : Nat) : Int), x⟩] }, .slice (some ⟨w.heap.size, 0, none⟩) 1 1)) sl2 rC_len hj3 (by decide) rfl (by rw [List.getElem_set_self]; rfl) fun w3 sl3 hk3 hz3 => ?_
  rw [List.set_set] at sl3
  have k13 : Kp (fun c => c = b) w1 w3 := hk2.trans hk3
  have s13 := k13.size
  have iss3 := h1.iss.kp k13 fun c e (q : c = b) => hne (by rw [e, q])
  refine bdq_r (l := isC2 ⟨id, x⟩) rfl ?_
  refine iss3.app isC2_len rfl ⟨id, x⟩ rfl (by omega) (by omega) rfl fun w4 iv4 iob4 iss4 hk4 ho4 => ?_
  have k34 := hk4
  have s34 := hk4.size
  -- all the blocks of the line are still there
  have hky : Ky (Fz V (some b) iob) w w4 := by
    refine ⟨fun c => c = b ∨ iob = some c, ?_, fun c hc q => ?_⟩
    · exact ((k1.mono fun c _ q => q.elim).trans (k13.mono fun c _ q => .inl q)).trans (hk4.mono fun c _ q => .inr q)
    · rcases q with q | q
      · exact hc.2.1 (by rw [q])
      · exact hc.2.2 q
  have hlv4 := hky.ar (fun b hb => hb) hlv
  refine cut_ok (w := w4) hlv4 hll hk (fun c hc => by have := hlt c hc.1; omega) fun w5 lv5 lob k5 sl5 hlob => ?_
  have s5 := k5.size
  -- the whole way
  have z1 := h1.z
  have z3 := srv.gro z1 k13 fun c (q : c = b) => .inl (q ▸ hVb)
  have z4 := srv.gro z3 hk4 fun c q => .inl (.inl (h.iV c q))
  have z5 := srv.gro (S := Emp) z4 k5 fun c q => q.elim
  have hs14 : w.heap.size ≤ w4.heap.size := by omega
  have hiob : ∀ c, iob4 = some c → iob = some c ∨ w3.heap.size ≤ c := fun c e => by
    rcases ho4 with q | ⟨d, q, hd⟩
    · exact .inl (by rw [← q]; exact e)
    · rw [q] at e; cases e; exact .inr hd
  have hFz : ∀ c, Fz V (some b) iob c → iob4 ≠ some c := fun c hc e => by
    rcases hiob c e with q | q
    · exact hc.2.2 q
    · have := hlt c hc.1; omega
  refine hK w5 _ lv5 iv4 iob4 ⟨z5, fun p hp => ?_, ⟨its.set j ({ its[j].1 with st := 8, legs := [⟨((a : Nat) : Int), x⟩] }, .slice (some ⟨w.heap.size, 0, none⟩) 1 1), ?_, ?_, fun p hp => ?_⟩, fun c e => ?_, ?_, fun c e => ?_⟩ (fun c hc => .inl (.inl (.inl (.inl hc)))) ?_ ?_
  · have hp' := h.x p hp
    exact ⟨⟨.inl (.inl (.inl (.inl hp'.1.1))), hp'.1.2.1, hFz _ hp'.1⟩, k5.row' (hky.row hp'.1 hp'.2)⟩
  · rw [map_set_fst e1]
    simp only
    unfold tIssue
    have hh : has s.rs id := ⟨by omega, by omega⟩
    rw [if_pos hh, rget_at hid hj, if_pos h7, rset_at hid]
    simp only
    rw [ei, show s.rs[j].ln - 1 = ((a : Nat) : Int) by omega]
  · have sl4 := sl3.kp hk4 fun c e => by cases e; exact hne
    exact sl4.kp' k5
  · rcases List.mem_or_eq_of_mem_set hp with q | q
    · have a3 := e3 p q
      have := (a3.kp k13 fun c hc (e : c = b) => hc.2.1 (by rw [e])).kp hk4 fun c hc e => hc.2.2 e
      refine (this.kp' k5).mono fun c hc => ⟨.inl (.inl (.inl hc.1)), hc.2.1, fun e => ?_⟩
      rcases hiob c e with q | q
      · exact hc.2.2 q
      · rcases hc.1 with r | r
        · have := hlt c r; omega
        · have := r.2; omega
    · rw [q]
      have := (a1.kp k13 fun c (hc : c = w.heap.size) (e : c = b) => by omega).kp hk4 fun c (hc : c = w.heap.size) e => by have := hlt c (h.iV c e); omega
      refine (this.kp' k5).mono fun c (hc : c = w.heap.size) => ⟨.inl (.inl (.inl (.inr ⟨by omega, by omega⟩))), (fun e => by cases e; omega), fun e => ?_⟩
      rcases hiob c e with q | q
      · have := hlt c (h.iV c q); omega
      · omega
  · exact .inl (.inl (.inl (.inl (h.rV c e))))
  · exact iss4.kp' k5
  · rcases ho4 with q | ⟨d, q, hd⟩
    · exact .inl (.inl (.inl (.inl (h.iV c (by rw [← q]; exact e)))))
    · rw [q] at e
      cases e
      subst q
      have := iss4.lt
      exact .inl (.inr ⟨hd, this⟩)
  · have hl5 : (line.take k ++ line.drop (k + 1)).length ≤ 140737488355328 := by rw [List.length_append, List.length_take, List.length_drop]; omega
    refine sl5.ar iC_len hl5 fun c e => ?_
    cases e
    refine ⟨.inr ⟨hlob, sl5.lt⟩, (fun e => by cases e; omega), fun e => ?_⟩
    rcases ho4 with q | ⟨d, q, hd⟩
    · have := hlt lob (h.iV lob (by rw [← q]; exact e)); omega
    · subst q
      have := iss4.lt
      cases e
      omega
  · exact hky.trans (V1 := Fz V (some b) iob) (Ky.of k5 fun _ _ q => q) fun _ q => q
end
end Go.Proofs.Qxb6500896aGreat
