import Derived.Test.Qxb6500896aGreatM11
namespace Go.Proofs.Qxb6500896aGreat
open Go.Sh Go.RowKit
set_option linter.unusedVariables false
set_option linter.unusedSimpArgs false

/-- a state of a run -/
abbrev MG (s : Ms) : Prop := ∃ seq, Gd park seq s.now s.rs s.ls
theorem MG.mk {s : Ms} (h : MG s) : Mk s := by
  obtain ⟨seq, g⟩ := h
  have hn := g.now
  have hmc : park.mc = 36 := rfl
  have hlen := g.len
  have hmb : park.mb = 26 := rfl
  rw [hmc] at hn
  rw [hmb] at hlen
  have h3 : park.ats.length = 3 := rfl
  refine ⟨⟨hn.1, by omega⟩, ⟨g.rl park_cv, fun r hr => by have := (g.pos r hr).1; omega, by omega⟩, by rw [g.li.len]; exact h3, fun l hl => by have := g.li.mx l hl; have : park.mx = 4 := rfl; omega⟩
/-- records with one more leg's issue can be reckoned with -/
theorem vk_put {rs : List Rec} {j : Nat} {st : Int} {ls : List Leg} (h : Vk rs) (hj : j < rs.length) (hs : N63 st) (hl : ls.length ≤ 8) (hb : ∀ l ∈ ls, (0 ≤ l.a ∧ l.a < 3) ∧ 0 ≤ l.s ∧ l.s ≤ 1000000) : Vk (rs.set j { rs[j] with st := st, legs := ls }) := by
  have r0 := h.rl _ (List.getElem_mem hj)
  have i0 := h.id _ (List.getElem_mem hj)
  have h3 : park.ats.length = 3 := rfl
  refine ⟨fun r hr => ?_, fun r hr => ?_, by rw [List.length_set]; exact h.len⟩
  · rcases List.mem_or_eq_of_mem_set hr with q | q
    · exact h.rl r q
    · rw [q]
      have rb := r0.rb
      have rn := r0.rn
      refine ⟨⟨rb.s0, rb.s1, hl, fun l hl' => ?_⟩, ⟨rn.id, hs, rn.cl, rn.sz, rn.ln, rn.ex, fun l hl' => ?_, hl⟩, r0.cl, fun l hl' => ?_⟩
      · have := hb l hl'; exact ⟨by omega, by omega⟩
      · have := hb l hl'; exact ⟨⟨by omega, by omega⟩, by omega, by omega⟩
      · have := hb l hl'; omega
  · rcases List.mem_or_eq_of_mem_set hr with q | q
    · exact h.id r q
    · rw [q]; exact i0
section
variable {O G : Nat → Prop} {w w' : World} {m : Nat} {s : Ms} {K : Value → World → Prop} {seq : Int}
set_option maxHeartbeats 2000000 in
/-- the oldest that fits -/
theorem oldest_ok {a : Nat} (h : Mo O G w m s) (g : Gd park seq s.now s.rs s.ls) (ha : a < 3)
    (hK : ∀ w', Kp Emp w w' → K (.tuple #[I ((firstOf park s.rs s.now (lnOf s.ls (a : Nat))).getD (0, 0)).1, I ((firstOf park s.rs s.now (lnOf s.ls (a : Nat))).getD (0, 0)).2]) w') : cl Tryz.prog 151 #[P m 0, I (a : Nat)] K w := by
  have hm : Mk s := MG.mk ⟨seq, g⟩
  have hn := hm.now
  have hn36 := g.now.2
  have hmc : park.mc = 36 := rfl
  rw [hmc] at hn36
  have hlen := hm.vk.len
  have hls3 := hm.ln
  have hr := h.mr hlen (by omega) fun l hl => by have := hm.ll l hl; omega
  obtain ⟨va, vt, rv, lv, rm, _, _, hro, hlr⟩ := hr.parts
  obtain ⟨vals, v1, v2, v3⟩ := hlr
  have hav : a < vals.length := by omega
  have hal : a < s.ls.length := by omega
  have hline := v3 a hav hal
  have eln := lnOf_at hal
  have hat := g.li.at_ a hal
  rw [← eln] at hline hat
  have hll : (lnOf s.ls (a : Nat)).length ≤ 1000 := by rw [eln]; exact hm.ll _ (List.getElem_mem hal)
  generalize lnOf s.ls ((a : Nat) : Int) = line at hline hat hll hK
  apply c151
  unfold s151_p9
  refine nk0 (fdp (ld1_r (v := lv) rm rfl ?_))
  refine v1.ix hav fun b o _ cc => ?_
  refine cc.ld0 (v := vals[a]) rfl ?_
  refine hline.ln ?_
  unfold s151_p8
  refine loop_n line.length (fun i l w' => l = [P m 0, vals[a], I (line.length : Nat), I (i : Nat)] ∧ Kp Emp w w' ∧ firstOf park s.rs s.now line = firstOf park s.rs s.now (line.drop i)) ⟨rfl, Kp.refl _ _, by rw [List.drop_zero]⟩ ?_ ?_
  · rintro i l w1 hi ⟨rfl, k1, he⟩ B hB
    rw [s151_p8_Fe]
    unfold s151_p7
    simp only [dlt hi, e_lss, e_ift]
    unfold s151_p6
    refine (hline.kp' k1).ix hi fun b1 o1 _ c1 => ?_
    refine c1.ld0 (v := I line[i]) rfl ?_
    refine nk0 (fdp (ld1_r (v := I s.now) (k1.row' rm) rfl ?_))
    simp only [e_add]
    rw [wrap64_id (by omega) (by omega)]
    obtain ⟨hh, h7, hln⟩ := hat _ (List.getElem_mem hi)
    obtain ⟨j, ej, hj⟩ := has_at hh
    have er := rget_at ej hj
    have h7' := h7
    rw [er] at h7'
    have eo : tOffer park s.rs line[i] (s.now + 1) (s.now + park.of) = offF park s.rs (rget s.rs line[i]) 4 (s.now + 1) := by
      unfold tOffer
      rw [if_pos ⟨hh, h7⟩]
      have : (s.now + park.of + 1 - (s.now + 1)).toNat = 4 := by
        have : park.of = 4 := rfl
        rw [this]; omega
      rw [this]
    unfold s151_p5
    refine loop_m 4 (fun n l w' => ∃ k : Nat, n + k = 4 ∧ l = [P m 0, I line[i], I (s.now + 1 + ((k : Nat) : Int)), vals[a], I (line.length : Nat), I (i : Nat)] ∧ Kp Emp w w' ∧ offF park s.rs (rget s.rs line[i]) 4 (s.now + 1) = offF park s.rs (rget s.rs line[i]) n (s.now + 1 + ((k : Nat) : Int))) ⟨0, rfl, by simp, k1, by simp⟩ ?_
    rintro n l w2 ⟨k, hnk, rfl, k2, hof⟩ B2 hB2
    rw [s151_p5_Fe]
    unfold s151_p4 s151_p4_d
    have kd : Kp Emp w2 (drw w2) := kp_drw
    generalize drw w2 = w3 at kd ⊢
    have k3 := k2.trans kd
    refine nk0 (fdp (ld1_r (v := I s.now) (k3.row' rm) rfl ?_))
    refine nk0 (fdp (fdp (ld1_r (v := I 4) (k3.row' rm) rfl ?_)))
    simp only [e_add]
    rw [wrap64_id (by omega) (by omega)]
    simp only [e_leq]
    unfold s151_p3
    cases n with
    | zero =>
      simp only [decide_eq_false (show ¬ s.now + 1 + ((k : Nat) : Int) ≤ s.now + 4 by omega), e_iff]
      unfold s151_p2
      simp only [e_add]
      rw [inc i (by omega)]
      refine hB _ _ ⟨rfl, k3, ?_⟩
      rw [he, firstOf_none hi (by rw [eo, hof, offF])]
    | succ n =>
      simp only [decide_eq_true (show s.now + 1 + ((k : Nat) : Int) ≤ s.now + 4 by omega), e_ift]
      refine issued_ok (h.kp' k3) hm hh ⟨by omega, by omega⟩ fun w4 c h4 hk4 => ?_
      have hbl : LegB [⟨(rget s.rs line[i]).ln - 1, s.now + 1 + ((k : Nat) : Int)⟩] := fun l hl => by
        rw [List.mem_singleton.1 hl]
        exact ⟨⟨by simp only; omega, by simp only; omega⟩, by simp only; omega, by simp only; omega⟩
      have hvk : Vk (issM s line[i] (s.now + 1 + ((k : Nat) : Int))).rs := by
        unfold issM
        simp only
        rw [rset_at ej, er]
        refine vk_put hm.vk hj ⟨by decide, by decide⟩ (by simp) fun l hl => ?_
        rw [List.mem_singleton.1 hl]
        rw [er] at hln
        exact ⟨⟨by simp only; omega, by simp only; omega⟩, by simp only; omega, by simp only; omega⟩
      have hmr4 : Mr (fun b => Nb w3 w4 b ∨ G b) w4 c (issM s line[i] (s.now + 1 + ((k : Nat) : Int))) := h4.mr hvk.len (by unfold issM; simp only; rw [List.length_set]; omega) fun l hl => by
        unfold issM at hl
        simp only at hl
        rcases List.mem_or_eq_of_mem_set hl with q | q
        · have := hm.ll l q; omega
        · rw [q]
          refine Nat.le_trans (List.length_filter_le _ _) ?_
          have e : lnOf s.ls ((rget s.rs line[i]).ln - 1) = lnOf s.ls ((a : Nat) : Int) := by rw [hln]; congr 1; omega
          rw [e, eln]
          have := hm.ll _ (List.getElem_mem hal)
          omega
      refine verdM_ok hmr4 hvk fun w5 k5 => ?_
      have ev : verd (issM s line[i] (s.now + 1 + ((k : Nat) : Int))).rs = fits park s.rs (rget s.rs line[i]).cl (rget s.rs line[i]).sz [⟨(rget s.rs line[i]).ln - 1, s.now + 1 + ((k : Nat) : Int)⟩] 0 := by
        unfold issM
        simp only
        rw [rset_at ej, er]
        rw [er] at hbl
        have hp := g.rc _ (List.getElem_mem hj)
        have hpos := g.pos _ (List.getElem_mem hj)
        refine verd_put (skip := 0) (r' := { s.rs[j] with st := 8, legs := [⟨s.rs[j].ln - 1, s.now + 1 + ((k : Nat) : Int)⟩] }) hj g.ld g.pos (.inl (by rw [h7']; rfl)) (fun j' hj' _ => by have := g.pos _ (List.getElem_mem hj'); omega) hpos.1 rfl hbl ⟨(g.rn _ (List.getElem_mem hj)).cl.1, hp.cl⟩
      rw [ev]
      have k35 := (k3.trans hk4).trans k5
      by_cases hf : fits park s.rs (rget s.rs line[i]).cl (rget s.rs line[i]).sz [⟨(rget s.rs line[i]).ln - 1, s.now + 1 + ((k : Nat) : Int)⟩] 0 = 0
      · have e0 : (fits park s.rs (rget s.rs line[i]).cl (rget s.rs line[i]).sz [⟨(rget s.rs line[i]).ln - 1, s.now + 1 + ((k : Nat) : Int)⟩] 0 == 0) = true := by rw [hf]; rfl
        simp only [e_eql, e0, e_ift]
        have : firstOf park s.rs s.now line = some (line[i], s.now + 1 + ((k : Nat) : Int)) := by
          rw [he]
          refine firstOf_some hi ?_
          rw [eo, hof, offF, if_pos hf]
        rw [this] at hK
        exact hK w5 k35
      · have e0 : (fits park s.rs (rget s.rs line[i]).cl (rget s.rs line[i]).sz [⟨(rget s.rs line[i]).ln - 1, s.now + 1 + ((k : Nat) : Int)⟩] 0 == 0) = false := by rw [beq_eq_false_iff_ne]; exact hf
        simp only [e_eql, e0, e_iff, e_add]
        rw [wrap64_id (by omega) (by omega)]
        refine hB2 n _ _ (by omega) ⟨k + 1, by omega, by rw [show s.now + 1 + ((k : Nat) : Int) + 1 = s.now + 1 + ((k + 1 : Nat) : Int) by omega], k35, ?_⟩
        rw [hof, offF, if_neg hf, show s.now + 1 + ((k : Nat) : Int) + 1 = s.now + 1 + ((k + 1 : Nat) : Int) by omega]
  · rintro l w1 ⟨rfl, k1, he⟩ B
    rw [s151_p8_Fe]
    unfold s151_p7
    simp only [dnlt, e_lss, e_iff]
    unfold s151_p1
    rw [List.drop_length] at he
    rw [he] at hK
    exact hK w1 k1
end
end Go.Proofs.Qxb6500896aGreat
