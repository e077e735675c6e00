import Derived.Test.Qxb6500896aGreatM18
namespace Go.Proofs.Qxb6500896aGreat
open Go.Sh Go.RowKit
set_option linter.unusedVariables false
set_option linter.unusedSimpArgs false

section
variable {O G O2 O' S F : Nat → Prop} {w w' w0 : World} {m c ib rb j : Nat} {s s2 : Ms} {K : Value → World → Prop} {X : World → Prop} {seq : Int} {σ : Sg} {q : Rq} {id st op : Int} {lv : Value} {ls : List Leg}
theorem two_st {Y : Value → World → Prop} (h : Y (.bool (st != 1 && st != 2)) w) : gd (.bool (st != 1)) true (fun K w => K (I st) w) (fun t35 w => gd (.bool (st != 1)) true (boI .neq t35 (I 2)) (fun t36 w => pk (.bool (st != 1)) t36 (.bool false) Y w) w) w := by
  cases h1 : (st != 1) with
  | true => rw [h1] at h; simp only [e_gdtt, e_neq, e_pkt]; exact h
  | false => rw [h1] at h; simp only [e_gdft, e_pkf]; exact h
/-- the legs are set -/
theorem Mq.setLegs (h : Mq O G w m s rb) (hj : j < s.rs.length) (hl : Ar lC 2 F w lv ls) (hF : ∀ b, F b → b < w.heap.size ∧ ¬ O b ∧ ¬ G b) (hX : ∀ w', Mq (fun b => O b ∨ F b) G w' m ⟨s.now, s.rs.set j { s.rs[j] with legs := ls }, s.ls⟩ rb → Kp O w w' → w'.heap.size = w.heap.size → X w') : st1 (P rb (j * 7 + 6)) lv X w := by
  obtain ⟨va, vt, rv, lv', lob, its, ps, y, e1, e2⟩ := h
  have hil : its.length = s.rs.length := by rw [← e1, List.length_map]
  have hj2 : j < its.length := by omega
  have ei : its[j].1 = s.rs[j] := by
    have : (its.map (·.1))[j]? = s.rs[j]? := by rw [e1]
    rw [List.getElem?_map, List.getElem?_eq_getElem hj2, List.getElem?_eq_getElem hj] at this
    exact Option.some.inj this
  have y' := y.sup (O' := fun b => O b ∨ F b) (fun b q => .inl q) (fun b q r => r.elim (y.gd b q) fun r => (hF b r).2.2 q) fun b q => q.elim (fun q => y.lt b (.inl q)) fun q => (hF b q).1
  refine y'.setRec (y := ({ its[j].1 with legs := ls }, lv)) rfl hj2 (show 6 < 7 by decide) hl.scal rfl (hl.mono fun b q => ⟨.inr q, fun r => (hF b q).2.1 (y.own b r)⟩) fun w2 x2 hk2 hz2 => ?_
  refine hX w2 ⟨va, vt, rv, lv', lob, _, ps, x2, ?_, e2⟩ (hk2.mono fun b _ q => y.own b q) hz2
  rw [List.map_set, e1, ei]
set_option maxHeartbeats 2000000 in
theorem rebookM_ok (h : Mw O G w0 O' w m σ.ms) (g : SGd park σ) (hq : q.op = 5) (hl : Ar lC 2 F w lv q.legs) (hF : ∀ b, F b → Nb w0 w b ∧ ¬ O' b) (hll : q.legs.length ≤ 1000) (hr : ∀ l ∈ q.legs, N63 l.a ∧ N63 l.s)
    (hK : MK O G w0 m K (chM q σ).1.ms (eR (chM q σ).2)) : cl Tryz.prog 91 #[P m 0, I q.id, lv] K w := by
  have hm : Mk σ.ms := MG.mk ⟨_, g⟩
  have hlen := g.len
  have hmb : park.mb = 26 := rfl
  rw [hmb] at hlen
  have hn := g.now
  have hmc : park.mc = 36 := rfl
  rw [hmc] at hn
  unfold chM at hK
  have ev : valid park σ.now q = vLegs park σ.now q.legs := by
    unfold valid; rw [if_neg (by omega), if_pos hq]
  rw [ev] at hK
  apply c91
  unfold s91_p1
  refine ticket_ok (h.mr g) (by show 0 ≤ σ.now ∧ σ.now ≤ 1000; omega) hl hll hr fun w1 k1 => ?_
  have h1 := h.emp k1
  simp only [e_neq]
  by_cases ht : vLegs park σ.now q.legs = 0
  case neg =>
    have e1 : (vLegs park σ.ms.now q.legs != 0) = true := bne_iff_ne.2 ht
    simp only [e1, e_ift]
    rw [if_neg ht, eR_rf ht] at hK
    exact no_ok vL_rng (h1.out hK)
  have e1 : (vLegs park σ.ms.now q.legs != 0) = false := by show (vLegs park σ.now q.legs != 0) = false; rw [ht]; rfl
  simp only [e1, e_iff]
  rw [if_pos ht] at hK
  have lo := valid_rebook (by rw [ev]; exact ht) hq
  have lb := lo.lb hn
  unfold apS mvS tRebook at hK
  rw [if_neg (by omega), if_neg (by omega), if_neg (by omega), if_neg (by omega), if_pos hq, hq] at hK
  refine known_ok (h1.mr g) ?_
  simp only [e_not]
  by_cases hh : has σ.rs q.id
  case neg =>
    have e0 : (!decide (has σ.ms.rs q.id)) = true := by rw [decide_eq_false hh]; rfl
    simp only [e0, e_ift]
    rw [if_neg hh, eR_mvn (by simp)] at hK
    exact no_ok (by decide) (h1.out hK)
  have e0 : (!decide (has σ.ms.rs q.id)) = false := by rw [decide_eq_true hh]; rfl
  simp only [e0, e_iff]
  rw [if_pos hh] at hK
  obtain ⟨j, ej, hj⟩ := has_at hh
  have er := rget_at ej hj
  rw [er] at hK
  refine h1.mo.recI ej hj (by show σ.rs.length ≤ 1000; omega) fun rb hq1 => ?_
  refine fd2 (hq1.cell (s := σ.ms) hj (show 1 < 6 by decide) (x := I σ.rs[j].st) rfl ?_)
  simp only [e_neq]
  refine two_st ?_
  by_cases hst : σ.rs[j].st = 1 ∨ σ.rs[j].st = 2
  case neg =>
    have a1 : (σ.rs[j].st != 1 && σ.rs[j].st != 2) = true := by rw [Bool.and_eq_true]; exact ⟨bne_iff_ne.2 (by omega), bne_iff_ne.2 (by omega)⟩
    simp only [a1, e_ift]
    rw [if_neg hst, eR_mvn (by simp)] at hK
    exact no_ok (by decide) (h1.out hK)
  rw [if_pos hst] at hK
  have a1 : (σ.rs[j].st != 1 && σ.rs[j].st != 2) = false := by rcases hst with e | e <;> (rw [e]; rfl)
  simp only [a1, e_iff]
  refine mclone_ok h1.mo hm fun w2 c h2 hk2 => ?_
  have hl2 := (hl.kp' k1).kp' hk2
  have s12 := hk2.size
  have s01 := k1.size
  have s00 := h.k.size
  refine h2.recI ej hj (by show σ.rs.length ≤ 1000; omega) fun rb2 hq2 => ?_
  refine fd2 (hq2.setLegs (s := σ.ms) hj hl2 (fun b q => ⟨by have := (hF b q).1.2; omega, fun r => by have := r.1; have := (hF b q).1.2; omega, fun r => by have := h.g b r; have := (hF b q).1.1; omega⟩) fun w3 h3 hk3 hz3 => ?_)
  have hp := g.rc _ (List.getElem_mem hj)
  have hpos := g.pos _ (List.getElem_mem hj)
  have hcl : 0 ≤ σ.rs[j].cl ∧ σ.rs[j].cl < 3 := ⟨(g.rn _ (List.getElem_mem hj)).cl.1, hp.cl⟩
  have h5 := lo.l1
  have hml : park.ml = 3 := rfl
  rw [hml] at h5
  have hstN := (g.rn _ (List.getElem_mem hj)).st
  have hvk : Vk (σ.rs.set j { σ.rs[j] with legs := q.legs }) := vk_put (st := σ.rs[j].st) hm.vk hj hstN (by omega) fun l hl' => by have := lb l hl'; omega
  refine verdM_ok (h3.mo.mrv hvk hm.ln hm.ll) hvk fun w4 hk4 => ?_
  have evd : verd (σ.rs.set j { σ.rs[j] with legs := q.legs }) = fits park σ.rs σ.rs[j].cl σ.rs[j].sz q.legs q.id := verd_put (r' := { σ.rs[j] with legs := q.legs }) (skip := q.id) hj g.ld g.pos (.inr (by rw [g.ids j hj, ej])) (fun j' hj' hne => by rw [g.ids j' hj', ej]; omega) hpos.1 (by rcases hst with e | e <;> (show live σ.rs[j].st = true; rw [e]; rfl)) lb hcl
  simp only [evd, e_neq]
  have k14 : Kp (Nb w1 w2) w2 w4 := (hk3.trans hk4.none)
  have k04 : Kp Emp w1 w4 := hk2.then k14 fun b hb q => by have := q.1; omega
  have h4 := h1.emp k04
  by_cases hf : fits park σ.rs σ.rs[j].cl σ.rs[j].sz q.legs q.id = 0
  case neg =>
    have e3 : (fits park σ.rs σ.rs[j].cl σ.rs[j].sz q.legs q.id != 0) = true := bne_iff_ne.2 hf
    simp only [e3, e_ift]
    rw [if_neg hf, eR_mvn hf] at hK
    exact no_ok fits_rng (h4.out hK)
  have e3 : (fits park σ.rs σ.rs[j].cl σ.rs[j].sz q.legs q.id != 0) = false := by rw [hf]; rfl
  simp only [e3, e_iff]
  rw [if_pos hf, eR_mv0 (by decide)] at hK
  have o1 : ∀ b, O' b → b < w1.heap.size := fun b q => h1.mo.lt b (.inl q)
  have s24 := k14.size
  refine h4.copy (h3.mo.kp' hk4) (fun b q r => ?_) (fun b q => ?_) fun w5 h5' hk5 hz5 => ?_
  · rcases q with q | q
    · have := q.1; have := o1 b r; omega
    · exact (hF b q).2 r
  · rcases q with q | q
    · exact ⟨by have := q.1; omega, by have := q.2; omega⟩
    · exact ⟨(hF b q).1.1, by have := (hF b q).1.2; omega⟩
  have hj5 : j < (σ.rs.set j { σ.rs[j] with legs := q.legs }).length := by rw [List.length_set]; exact hj
  refine h5'.mo.recI ej hj5 (by show (σ.rs.set j { σ.rs[j] with legs := q.legs }).length ≤ 1000; rw [List.length_set]; omega) fun rb5 hq5 => ?_
  have est : ((σ.rs.set j { σ.rs[j] with legs := q.legs })[j]).st = σ.rs[j].st := by rw [List.getElem_set_self]
  refine fd2 (hq5.cell (s := ⟨σ.now, σ.rs.set j { σ.rs[j] with legs := q.legs }, σ.ls⟩) hj5 (show 1 < 6 by decide) (x := I σ.rs[j].st) (by show some (I ((σ.rs.set j { σ.rs[j] with legs := q.legs })[j]).st) = some (I σ.rs[j].st); rw [est]) ?_)
  refine yes_1 (op := 5) h5' hstN ?_
  have er2 : (rget (rset σ.rs q.id { σ.rs[j] with legs := q.legs }) q.id).st = σ.rs[j].st := by
    rw [rset_at ej, rget_at ej hj5, est]
  rw [er2, rset_at ej] at hK
  exact hK
end
end Go.Proofs.Qxb6500896aGreat
