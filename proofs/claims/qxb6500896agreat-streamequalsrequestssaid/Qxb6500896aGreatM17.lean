import Derived.Test.Qxb6500896aGreatM16
namespace Go.Proofs.Qxb6500896aGreat
open Go.Sh Go.RowKit
set_option linter.unusedVariables false
set_option linter.unusedSimpArgs false

section
variable {O G O2 O' S F : Nat → Prop} {w w' w0 : World} {m c ib rb j : Nat} {s s2 : Ms} {K : Value → World → Prop} {X : World → Prop} {seq : Int} {σ : Sg} {q : Rq} {id st op : Int}
theorem Mw.mr (h : Mw O G w0 O' w m σ.ms) (g : SGd park σ) : Mr (fun b => O' b ∨ G b) w m σ.ms := by
  have hm := MG.mk (s := σ.ms) ⟨_, g⟩
  have := hm.ln
  exact h.mo.mr hm.vk.len (by omega) fun l hl => by have := hm.ll l hl; omega
/-- results -/
theorem yes_s {b : Nat} {v : Value} {rs : List Int} (h : Mw O G w0 O' w m s) (sl : Sl iC 1 w 3 (some b) v rs) (hr : ∀ x ∈ rs, N63 x) (hl : rs.length ≤ 100000) (hK : MK O G w0 m K s ([0, op] ++ rs.flatMap uI)) : cl Tryz.prog 99 #[U8 op, v] K w :=
  yes_ok (F := fun c => c = b) (sl.ar iC_len (by omega) fun c e => (Option.some.inj e).symm) (fun c q => by rw [q]; exact sl.lt) hr hl (h.out hK)
/-- one result -/
theorem yes_1 {x : Int} (h : Mw O G w0 O' w m s) (hx : N63 x) (hK : MK O G w0 m K s ([0, op] ++ uI x)) : bsq 3 [I 0] 1 [(some (0, 1), I x)] (fun t w => cl Tryz.prog 99 #[U8 op, t] (fun t w => K t w) w) w := by
  refine bsq_r (l := [I x]) rfl fun w1 r1 hk1 hz1 => ?_
  have sl1 : Sl iC 1 w1 3 (some w.heap.size) (.slice (some ⟨w.heap.size, 0, none⟩) 1 1) [x] := ⟨1, [], rfl, Nat.le_refl _, rfl, by rw [List.append_nil]; exact r1⟩
  refine yes_s (h.emp hk1) sl1 (fun y hy => by rw [List.mem_singleton.1 hy]; exact hx) (by simp) ?_
  simpa using hK
/-- two results -/
theorem yes_2 {x y : Int} (h : Mw O G w0 O' w m s) (hx : N63 x) (hy : N63 y) (hK : MK O G w0 m K s ([0, op] ++ (uI x ++ uI y))) : bsq 3 [I 0] 2 [(some (0, 1), I x), (some (1, 1), I y)] (fun t w => cl Tryz.prog 99 #[U8 op, t] (fun t w => K t w) w) w := by
  refine bsq_r (l := [I x, I y]) rfl fun w1 r1 hk1 hz1 => ?_
  have sl1 : Sl iC 1 w1 3 (some w.heap.size) (.slice (some ⟨w.heap.size, 0, none⟩) 2 2) [x, y] := ⟨2, [], rfl, Nat.le_refl _, rfl, by rw [List.append_nil]; exact r1⟩
  refine yes_s (h.emp hk1) sl1 (fun z hz => ?_) (by simp) ?_
  · rcases List.mem_cons.1 hz with hz | hz
    · rw [hz]; exact hx
    · rw [List.mem_singleton.1 hz]; exact hy
  · simpa using hK
theorem eB_mv {p : Rp} (ho : p.op = 2 ∨ p.op = 3 ∨ p.op = 4 ∨ p.op = 5 ∨ p.op = 7 ∨ p.op = 8) : eB p = uI p.st := by
  unfold eB
  rw [if_neg (by omega), if_neg (by omega), if_pos ho]
theorem eR_mv0 {op st : Int} (ho : op = 2 ∨ op = 3 ∨ op = 4 ∨ op = 5 ∨ op = 7 ∨ op = 8) : eR (mvR op 0 st) = [0, op] ++ uI st :=
  (eR_0 (p := { rp0 with op := op, st := st }) rfl).trans (congrArg _ (eB_mv (p := { rp0 with op := op, st := st }) ho))
theorem eR_rf {code : Int} (h : code ≠ 0) : eR (rf code) = [code] := by
  unfold eR
  rw [if_neg (show ¬ (rf code).code = 0 from h)]
  rfl
theorem eR_mvn {op code st : Int} (h : code ≠ 0) : eR (mvR op code st) = [code] := by
  unfold mvR
  rw [if_neg h]
  exact eR_rf h
theorem rset_st {rs : List Rec} {j : Nat} {id x : Int} (ej : id = ((j + 1 : Nat) : Int)) (hj : j < rs.length) : rget (rset rs id { rget rs id with st := x }) id = { rget rs id with st := x } := by
  rw [rset_at ej, rget_at ej (by rw [List.length_set]; exact hj), List.getElem_set_self]
set_option maxHeartbeats 1000000 in
theorem confirmM_ok (h : Mw O G w0 O' w m σ.ms) (g : SGd park σ) (hq : q.op = 2) (hK : MK O G w0 m K (mvS q σ (tConfirm park σ.now q.id σ.rs)).1.ms (eR (mvS q σ (tConfirm park σ.now q.id σ.rs)).2)) : cl Tryz.prog 88 #[P m 0, I q.id] K w := by
  have hlen := g.len
  have hmb : park.mb = 26 := rfl
  rw [hmb] at hlen
  unfold mvS tConfirm at hK
  rw [hq] at hK
  apply c88
  unfold s88_p3
  refine known_ok (h.mr g) ?_
  simp only [e_not]
  by_cases hh : has σ.rs q.id
  · have e0 : (!decide (has σ.ms.rs q.id)) = false := by rw [decide_eq_true hh]; rfl
    simp only [e0, e_iff]
    rw [if_pos hh] at hK
    obtain ⟨j, ej, hj⟩ := has_at hh
    have er := rget_at ej hj
    refine h.mo.recI ej hj (by show σ.rs.length ≤ 1000; omega) fun rb hq1 => ?_
    refine nk2 (fd2 (hq1.cell (s := σ.ms) hj (show 1 < 6 by decide) (x := I σ.rs[j].st) rfl ?_))
    simp only [e_neq]
    by_cases h1 : σ.rs[j].st = 1
    · have e1 : (σ.rs[j].st != 1) = false := by rw [h1]; rfl
      simp only [e1, e_iff]
      rw [er, if_pos h1] at hK
      unfold s88_p2 s88_p2_d
      have kd : Kp Emp w (drw w) := kp_drw
      generalize drw w = w1 at kd ⊢
      have h1' := h.emp kd
      have q1 := hq1.kp' kd
      have lg := g.lgo _ (List.getElem_mem hj)
      refine nk0 (fdp (h1'.mo.nw ?_))
      refine nk2 (fd2 (q1.slot0 (s := σ.ms) hj lg (.inl h1) ?_))
      refine nk0 (fdp (fdp (h1'.mo.cf (n := 2) (fun _ _ _ _ => rfl) ?_)))
      obtain ⟨_, f0, f1⟩ := lg (.inl h1)
      simp only [e_add]
      rw [wrap64_id (by show -9223372036854775808 ≤ (fst0 σ.rs[j]).s + 2; omega) (by show (fst0 σ.rs[j]).s + 2 ≤ 9223372036854775807; omega)]
      simp only [e_geq]
      unfold s88_p1
      have hgr : park.gr = 2 := rfl
      rw [hgr] at hK
      by_cases hd : (fst0 σ.rs[j]).s + 2 ≤ σ.now
      · have e2 : decide ((fst0 σ.ms.rs[j]).s + 2 ≤ σ.ms.now) = true := decide_eq_true hd
        simp only [e2, e_ift]
        rw [if_pos hd, eR_mvn (by simp)] at hK
        exact no_ok (by decide) (h1'.out hK)
      · have e2 : decide ((fst0 σ.ms.rs[j]).s + 2 ≤ σ.ms.now) = false := decide_eq_false hd
        simp only [e2, e_iff]
        rw [if_neg hd, eR_mv0 (by decide), ← er, rset_st ej hj, rset_at ej, er] at hK
        refine nk2 (fd2 (q1.set (s := σ.ms) hj fun w2 h2 hk2 hz2 => ?_))
        have h2' := h1'.ofQ h2 hk2
        exact yes_1 h2' ⟨by decide, by decide⟩ hK
    · have e1 : (σ.rs[j].st != 1) = true := bne_iff_ne.2 h1
      simp only [e1, e_ift]
      rw [er, if_neg h1, eR_mvn (by simp)] at hK
      exact no_ok (by decide) (h.out hK)
  · have e0 : (!decide (has σ.ms.rs q.id)) = true := by rw [decide_eq_false hh]; rfl
    simp only [e0, e_ift]
    rw [if_neg hh, eR_mvn (by simp)] at hK
    exact no_ok (by decide) (h.out hK)
set_option maxHeartbeats 1000000 in
theorem cancelM_ok (h : Mw O G w0 O' w m σ.ms) (g : SGd park σ) (hq : q.op = 3) (hK : MK O G w0 m K (mvS q σ (tCancel q.id σ.rs)).1.ms (eR (mvS q σ (tCancel q.id σ.rs)).2)) : cl Tryz.prog 89 #[P m 0, I q.id] K w := by
  have hlen := g.len
  have hmb : park.mb = 26 := rfl
  rw [hmb] at hlen
  unfold mvS tCancel at hK
  rw [hq] at hK
  apply c89
  unfold s89_p1
  refine known_ok (h.mr g) ?_
  simp only [e_not]
  by_cases hh : has σ.rs q.id
  · have e0 : (!decide (has σ.ms.rs q.id)) = false := by rw [decide_eq_true hh]; rfl
    simp only [e0, e_iff]
    rw [if_pos hh] at hK
    obtain ⟨j, ej, hj⟩ := has_at hh
    have er := rget_at ej hj
    refine h.mo.recI ej hj (by show σ.rs.length ≤ 1000; omega) fun rb hq1 => ?_
    refine nk2 (fd2 (hq1.cell (s := σ.ms) hj (show 1 < 6 by decide) (x := I σ.rs[j].st) rfl ?_))
    simp only [e_neq]
    have yes : (σ.rs[j].st = 1 ∨ σ.rs[j].st = 2 ∨ σ.rs[j].st = 8) → st1 (P rb (j * 7 + 1)) (I 4) (fun w => bsq 3 [I 0] 1 [(some (0, 1), I 4)] (fun t41 w => cl Tryz.prog 99 #[U8 3, t41] (fun t42 w => K t42 w) w) w) w := fun hs => by
      rw [er, if_pos hs, eR_mv0 (by decide), ← er, rset_st ej hj, rset_at ej, er] at hK
      refine hq1.set (s := σ.ms) hj fun w2 h2 hk2 hz2 => ?_
      exact yes_1 (h.ofQ h2 hk2) ⟨by decide, by decide⟩ hK
    by_cases h1 : σ.rs[j].st = 1
    · have e1 : (σ.rs[j].st != 1) = false := by rw [h1]; rfl
      simp only [e1, e_gdft, e_pkf, e_iff]
      exact nk2 (fd2 (yes (.inl h1)))
    · have e1 : (σ.rs[j].st != 1) = true := bne_iff_ne.2 h1
      simp only [e1, e_gdtt]
      refine nk2 (fd2 (hq1.cell (s := σ.ms) hj (show 1 < 6 by decide) (x := I σ.rs[j].st) rfl ?_))
      simp only [e_neq, e_pkt]
      by_cases h2 : σ.rs[j].st = 2
      · have e2 : (σ.rs[j].st != 2) = false := by rw [h2]; rfl
        simp only [e2, e_gdft, e_pkf, e_iff]
        exact nk2 (fd2 (yes (.inr (.inl h2))))
      · have e2 : (σ.rs[j].st != 2) = true := bne_iff_ne.2 h2
        simp only [e2, e_gdtt]
        refine nk2 (fd2 (hq1.cell (s := σ.ms) hj (show 1 < 6 by decide) (x := I σ.rs[j].st) rfl ?_))
        simp only [e_neq, e_pkt]
        by_cases h8 : σ.rs[j].st = 8
        · have e3 : (σ.rs[j].st != 8) = false := by rw [h8]; rfl
          simp only [e3, e_iff]
          exact nk2 (fd2 (yes (.inr (.inr h8))))
        · have e3 : (σ.rs[j].st != 8) = true := bne_iff_ne.2 h8
          simp only [e3, e_ift]
          rw [er, if_neg (by omega), eR_mvn (by simp)] at hK
          exact no_ok (by decide) (h.out hK)
  · have e0 : (!decide (has σ.ms.rs q.id)) = true := by rw [decide_eq_false hh]; rfl
    simp only [e0, e_ift]
    rw [if_neg hh, eR_mvn (by simp)] at hK
    exact no_ok (by decide) (h.out hK)
set_option maxHeartbeats 1000000 in
theorem arriveM_ok (h : Mw O G w0 O' w m σ.ms) (g : SGd park σ) (hst : st = 2 ∨ st = 8) (hq : q.op = 4 ∨ q.op = 8) (hK : MK O G w0 m K (mvS q σ (tArrive σ.now q.id st σ.rs)).1.ms (eR (mvS q σ (tArrive σ.now q.id st σ.rs)).2)) : cl Tryz.prog 90 #[P m 0, U8 q.op, I q.id, I st] K w := by
  have hlen := g.len
  have hmb : park.mb = 26 := rfl
  rw [hmb] at hlen
  have ho : q.op = 2 ∨ q.op = 3 ∨ q.op = 4 ∨ q.op = 5 ∨ q.op = 7 ∨ q.op = 8 := by omega
  unfold mvS tArrive at hK
  apply c90
  unfold s90_p3
  refine known_ok (h.mr g) ?_
  simp only [e_not]
  by_cases hh : has σ.rs q.id
  · have e0 : (!decide (has σ.ms.rs q.id)) = false := by rw [decide_eq_true hh]; rfl
    simp only [e0, e_iff]
    rw [if_pos hh] at hK
    obtain ⟨j, ej, hj⟩ := has_at hh
    have er := rget_at ej hj
    refine h.mo.recI ej hj (by show σ.rs.length ≤ 1000; omega) fun rb hq1 => ?_
    refine nk2 (fd2 (hq1.cell (s := σ.ms) hj (show 1 < 6 by decide) (x := I σ.rs[j].st) rfl ?_))
    simp only [e_neq]
    by_cases h1 : σ.rs[j].st = st
    · have e1 : (σ.rs[j].st != st) = false := by rw [h1, bne_self_eq_false]
      simp only [e1, e_iff]
      rw [er, if_pos h1] at hK
      unfold s90_p2 s90_p2_d
      have kd : Kp Emp w (drw w) := kp_drw
      generalize drw w = w1 at kd ⊢
      have h1' := h.emp kd
      have q1 := hq1.kp' kd
      have lg := g.lgo _ (List.getElem_mem hj)
      have hs8 : σ.rs[j].st = 1 ∨ σ.rs[j].st = 2 ∨ σ.rs[j].st = 8 := by omega
      refine nk0 (fdp (h1'.mo.nw ?_))
      refine nk2 (fd2 (q1.slot0 (s := σ.ms) hj lg hs8 ?_))
      simp only [e_lss]
      unfold s90_p1
      by_cases hd : σ.now < (fst0 σ.rs[j]).s
      · have e2 : decide (σ.ms.now < (fst0 σ.ms.rs[j]).s) = true := decide_eq_true hd
        simp only [e2, e_ift]
        rw [if_pos hd, eR_mvn (by simp)] at hK
        exact no_ok (by decide) (h1'.out hK)
      · have e2 : decide (σ.ms.now < (fst0 σ.ms.rs[j]).s) = false := decide_eq_false hd
        simp only [e2, e_iff]
        rw [if_neg hd, eR_mv0 ho, ← er, rset_st ej hj, rset_at ej, er] at hK
        refine nk2 (fd2 (q1.set (s := σ.ms) hj fun w2 h2 hk2 hz2 => ?_))
        exact yes_1 (h1'.ofQ h2 hk2) ⟨by decide, by decide⟩ hK
    · have e1 : (σ.rs[j].st != st) = true := bne_iff_ne.2 h1
      simp only [e1, e_ift]
      rw [er, if_neg h1, eR_mvn (by simp)] at hK
      exact no_ok (by decide) (h.out hK)
  · have e0 : (!decide (has σ.ms.rs q.id)) = true := by rw [decide_eq_false hh]; rfl
    simp only [e0, e_ift]
    rw [if_neg hh, eR_mvn (by simp)] at hK
    exact no_ok (by decide) (h.out hK)
end
end Go.Proofs.Qxb6500896aGreat
