import Derived.Test.Qxb6500896aGreatM22
namespace Go.Proofs.Qxb6500896aGreat
open Go.Sh Go.RowKit
set_option linter.unusedVariables false
set_option linter.unusedSimpArgs false

section
variable {O G O2 O' S F : Nat → Prop} {w w' w0 w1 : World} {m c ib rb lb a j : Nat} {now n : Int} {rv lv v1 : Value} {s s2 : Ms} {K : Value → World → Prop} {X : World → Prop} {seq : Int} {σ : Sg} {q : Rq} {id st op : Int}
theorem qLim_b (h : 0 ≤ q.li) : 1 ≤ qLim park q ∧ qLim park q ≤ 5 := by
  unfold qLim
  have : park.pg = 5 := rfl
  rw [this]
  split <;> omega
/-- the end of a listing -/
theorem list_end {b : Nat} {v : Value} {nx : Int} {R : List Rec} (h : Mw O G w0 O' w m s) (sl : Sl iC 1 w 3 (some b) v (R.flatMap rowL)) (hn : N63 nx) (hR : R.length ≤ 5) (hr : ∀ r ∈ R, RN r) (hK : MK O G w0 m K s ([0, 17] ++ (uI nx ++ uI (R.length : Nat) ++ encRs R))) : s96_p1 K (I nx) (I (R.length : Nat)) v w := by
  unfold s96_p1
  refine bsq_r (l := [I nx, I (R.length : Nat)]) rfl fun w1 r1 hk1 hz1 => ?_
  have sl1 : Sl iC 1 w1 3 (some w.heap.size) (.slice (some ⟨w.heap.size, 0, none⟩) 2 2) [nx, ((R.length : Nat) : Int)] := ⟨2, [], rfl, Nat.le_refl _, rfl, by rw [List.append_nil]; exact r1⟩
  have hrl := rows_len hr
  refine Sl.app2 iC_len rfl (fun _ _ => rfl) sl1 (sl.kp' hk1) (by simp only [List.length_cons, List.length_nil]; omega) (by simp only [List.length_cons, List.length_nil]; omega) fun w2 v2 ob2 sl2 hk2 ho2 => ?_
  have k02 : Kp Emp w w2 := hk1.then hk2 fun b hb e => by cases e; omega
  have hb2 : ∃ b2, ob2 = some b2 := by
    rcases ho2 with q | ⟨c, q, hc⟩
    · exact ⟨_, q⟩
    · exact ⟨c, q⟩
  obtain ⟨b2, rfl⟩ := hb2
  refine yes_s (h.emp k02) sl2 (fun x hx => ?_) (by simp only [List.length_append, List.length_cons, List.length_nil]; omega) ?_
  · rcases List.mem_append.1 hx with q | q
    · rcases List.mem_cons.1 q with q | q
      · rw [q]; exact hn
      · rw [List.mem_singleton.1 q]; exact ⟨by omega, by omega⟩
    · obtain ⟨r, hr', q⟩ := List.mem_flatMap.1 q
      exact rowL_N (hr r hr') x q
  · rw [List.flatMap_append, rowL_encs]
    simpa using hK
set_option maxHeartbeats 2000000 in
theorem listM_5 {li : Int} (h : Mw O G w0 O' w m σ.ms) (g : SGd park σ) (hq : q.op = 17) (hi0 : 0 ≤ q.id) (hl0 : 0 ≤ q.li) (hli : li = qLim park q) (hK : MK O G w0 m K σ.ms (eR (qList park q σ))) : s96_p5 K (P m 0) (I q.id) (I li) w := by
  have hm : Mk σ.ms := MG.mk ⟨_, g⟩
  have hlen := g.len
  have hmb : park.mb = 26 := rfl
  rw [hmb] at hlen
  have hb := qLim_b (q := q) hl0
  unfold qList at hK
  rw [eR_17 rfl hq] at hK
  obtain ⟨k0, ek0⟩ : ∃ k0 : Nat, (qFst q - 1).toNat = k0 := ⟨_, rfl⟩
  obtain ⟨lm, elm⟩ : ∃ lm : Nat, qLim park q = (lm : Int) := ⟨(qLim park q).toNat, by omega⟩
  have hk0 : (1 ≤ q.id ∧ q.id = ((k0 + 1 : Nat) : Int)) ∨ (q.id = 0 ∧ k0 = 0) := by
    unfold qFst at ek0
    by_cases h1 : q.id < 1
    · rw [if_pos h1] at ek0; right; exact ⟨by omega, by omega⟩
    · rw [if_neg h1] at ek0; left; exact ⟨by omega, by omega⟩
  have hf : qFst q = ((k0 + 1 : Nat) : Int) := by unfold qFst at ek0 ⊢; split at ek0 <;> (rename_i q1; simp only [q1, if_true, if_false]; omega)
  rw [elm] at hli hb
  subst hli
  simp only [hf, elm, Int.toNat_natCast, show (((k0 + 1 : Nat) : Int) - 1).toNat = k0 by omega] at hK
  obtain ⟨va, vt, rv, lv, rm, _, _, hro, _⟩ := (h.mr g).parts
  obtain ⟨its, e1, hA, hlg⟩ := hro
  replace e1 : its.map (·.1) = σ.rs := e1
  have hil : its.length = σ.rs.length := by rw [← e1, List.length_map]
  have ei : ∀ i (h1 : i < its.length), its[i].1 = σ.rs[i]'(by omega) := fun i h1 => by
    have : (its.map (·.1))[i]? = σ.rs[i]? := by rw [e1]
    rw [List.getElem?_map, List.getElem?_eq_getElem h1, List.getElem?_eq_getElem (by omega)] at this
    exact Option.some.inj this
  unfold s96_p5
  refine Sl.empty (f := iC) (k := 1) (e := 3) fun w1 sl1 hk1 hz1 => ?_
  refine nk0 (fdp (ld1_r (v := rv) (hk1.row' rm) rfl ?_))
  refine hA.ln ?_
  rw [hil]
  unfold s96_p4
  refine loop_n σ.rs.length (fun i l w' => ∃ v b, l = [I q.id, I (lm : Nat), I 0, I ((i - k0 : Nat) : Int), v, rv, I (σ.rs.length : Nat), I (i : Nat)] ∧ Sl iC 1 w' 3 (some b) v (((σ.rs.take i).drop k0).flatMap rowL) ∧ w.heap.size ≤ b ∧ Kp Emp w w' ∧ i - k0 ≤ lm) ⟨_, _, by rw [Nat.zero_sub]; rfl, by simpa using sl1, Nat.le_refl _, hk1, by omega⟩ ?_ ?_
  · rintro i l w2 hi ⟨v2, b2, rfl, sl2, hb2, k2, hc⟩ B hB
    rw [s96_p4_Fe]
    unfold s96_p3
    simp only [dlt hi, e_lss, e_ift]
    have hi2 : i < its.length := by omega
    have hsc := (hlg _ (List.getElem_mem hi2)).scal
    refine each_r rfl (hA.kp' k2) hi2 (rC_len _) (rC_sc hsc) fun w4 r4 hk4 hz4 => ?_
    have eid : its[i].1.id = ((i + 1 : Nat) : Int) := by rw [ei i hi2]; exact g.ids i hi
    refine fdp (ld1_r (v := I its[i].1.id) r4 rfl ?_)
    rw [eid]
    have k4 := k2.trans hk4
    by_cases hlt : i < k0
    · simp only [e_lss, decide_eq_true (show ((i + 1 : Nat) : Int) < q.id by omega), e_ift]
      unfold s96_p2
      simp only [e_add]
      rw [inc i (by omega)]
      refine hB _ _ ⟨v2, b2, by rw [show i + 1 - k0 = i - k0 by omega], ?_, hb2, k4, by omega⟩
      rw [List.drop_of_length_le (by rw [List.length_take]; omega)]
      rw [List.drop_of_length_le (by rw [List.length_take]; omega)] at sl2
      exact sl2.kp' hk4
    · simp only [e_lss, decide_eq_false (show ¬ ((i + 1 : Nat) : Int) < q.id by omega), e_iff, e_eql]
      by_cases hcl : i - k0 = lm
      · have e0 : ((((i - k0 : Nat) : Int)) == ((lm : Nat) : Int)) = true := by rw [hcl]; exact beq_self_eq_true _
        simp only [e0, e_ift]
        refine fdp (ld1_r (v := I its[i].1.id) r4 rfl ?_)
        rw [eid]
        have el : ((σ.rs.take i).drop k0).length = i - k0 := by rw [List.length_drop, List.length_take]; omega
        rw [← el]
        refine list_end (h.emp k4) (sl2.kp' hk4) ⟨by omega, by omega⟩ (by omega) (fun r hr => g.rn r (List.mem_of_mem_take (List.mem_of_mem_drop hr))) ?_
        have e2 : (σ.rs.drop k0).take lm = (σ.rs.take i).drop k0 := by rw [List.drop_take, hcl]
        rw [e2, if_pos (show k0 + lm < σ.rs.length by omega), show ((k0 + 1 : Nat) : Int) + ((lm : Nat) : Int) = ((i + 1 : Nat) : Int) by omega] at hK
        exact hK
      · have e0 : ((((i - k0 : Nat) : Int)) == ((lm : Nat) : Int)) = false := by rw [beq_eq_false_iff_ne]; omega
        simp only [e0, e_iff, e_add]
        rw [inc _ (by omega)]
        refine ldn_r r4 (by decide : 0 + 7 ≤ 7) ?_
        have rn := g.rn _ (List.getElem_mem hi)
        have hl8 := rn.ll
        refine row_ok (p := its[i]) ((hlg _ (List.getElem_mem hi2)).kp' k4) (fun b q => by have := h.mo.lt b q; have := k4.size; omega) (by rw [ei i hi2]; omega) fun w5 v5 b5 sl5 hb5 hk5 => ?_
        rw [ei i hi2] at sl5
        have hl23 := rowL_len hl8
        have hrl := rows_len (rs := (σ.rs.take i).drop k0) fun r hr => g.rn r (List.mem_of_mem_take (List.mem_of_mem_drop hr))
        have el : ((σ.rs.take i).drop k0).length = i - k0 := by rw [List.length_drop, List.length_take]; omega
        refine Sl.app2 iC_len rfl (fun _ _ => rfl) (sl2.kp' (hk4.trans hk5)) sl5 (by omega) (by omega) fun w6 v6 ob6 sl6 hk6 ho6 => ?_
        have s4 := k4.size
        have s5 := hk5.size
        have hb6 : ∃ b6, ob6 = some b6 ∧ w.heap.size ≤ b6 := by
          rcases ho6 with q | ⟨c, q, hc⟩
          · exact ⟨_, q, hb2⟩
          · exact ⟨c, q, by omega⟩
        obtain ⟨b6, rfl, hb6⟩ := hb6
        unfold s96_p2
        simp only [e_add]
        rw [inc i (by omega)]
        refine hB _ _ ⟨v6, b6, by rw [show i + 1 - k0 = i - k0 + 1 by omega], ?_, hb6, (k4.trans hk5).then hk6 fun b hb e => by cases e; omega, by omega⟩
        rw [List.take_succ_eq_append_getElem hi, List.drop_append_of_le_length (by rw [List.length_take]; omega), List.flatMap_append]
        simpa using sl6
  · rintro l w2 ⟨v2, b2, rfl, sl2, hb2, k2, hc⟩ B
    rw [s96_p4_Fe]
    unfold s96_p3
    simp only [dnlt, e_lss, e_iff]
    rw [List.take_length] at sl2
    have el : (σ.rs.drop k0).length = σ.rs.length - k0 := List.length_drop ..
    rw [← el]
    refine list_end (h.emp k2) sl2 ⟨by decide, by decide⟩ (by omega) (fun r hr => g.rn r (List.mem_of_mem_drop hr)) ?_
    rw [List.take_of_length_le (by omega), if_neg (by omega)] at hK
    exact hK
theorem listM_ok (h : Mw O G w0 O' w m σ.ms) (g : SGd park σ) (hq : q.op = 17) (hi0 : 0 ≤ q.id) (hl0 : 0 ≤ q.li) (hK : MK O G w0 m K σ.ms (quM q σ)) : cl Tryz.prog 96 #[P m 0, I q.id, I q.li] K w := by
  have ev : valid park σ.now q = 0 := by
    unfold valid; rw [if_neg (by omega), if_neg (by omega), if_neg (by omega), if_neg (by omega), if_neg (by omega)]
  unfold quM qR at hK
  rw [if_pos ev, if_neg (by omega), if_pos hq] at hK
  have hpg : park.pg = 5 := rfl
  apply c96
  unfold s96_p6
  simp only [e_eql]
  by_cases h0 : q.li = 0
  · have e0 : (q.li == 0) = true := by rw [h0]; rfl
    simp only [e0, e_gdtf, e_pkt, e_ift]
    refine nk0 (fdp (fdp (h.mo.cf (n := 5) (fun _ _ _ _ => rfl) ?_)))
    exact listM_5 h g hq hi0 hl0 (by unfold qLim; rw [if_pos (.inl h0)]; rfl) hK
  · have e0 : (q.li == 0) = false := by rw [beq_eq_false_iff_ne]; exact h0
    simp only [e0, e_gdff]
    refine nk0 (fdp (fdp (h.mo.cf (n := 5) (fun _ _ _ _ => rfl) ?_)))
    simp only [e_gtr, e_pkf]
    by_cases h5 : 5 < q.li
    · simp only [decide_eq_true h5, e_ift]
      refine nk0 (fdp (fdp (h.mo.cf (n := 5) (fun _ _ _ _ => rfl) ?_)))
      exact listM_5 h g hq hi0 hl0 (by unfold qLim; rw [hpg, if_pos (.inr h5)]) hK
    · simp only [decide_eq_false h5, e_iff]
      exact listM_5 h g hq hi0 hl0 (by unfold qLim; rw [hpg, if_neg (by omega)]) hK
end
end Go.Proofs.Qxb6500896aGreat
