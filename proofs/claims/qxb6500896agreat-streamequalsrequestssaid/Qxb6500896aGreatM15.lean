import Derived.Test.Qxb6500896aGreatM14
namespace Go.Proofs.Qxb6500896aGreat
open Go.Sh Go.RowKit
set_option linter.unusedVariables false
set_option linter.unusedSimpArgs false

/-- a record whose first leg can be read where the sweep reads it -/
def LgO (r : Rec) : Prop := (r.st = 1 ∨ r.st = 2 ∨ r.st = 8) → 1 ≤ r.legs.length ∧ 0 ≤ (fst0 r).s ∧ (fst0 r).s ≤ 1000000
theorem fst0_at {r : Rec} (h : 0 < r.legs.length) : fst0 r = r.legs[0] := by
  unfold fst0
  rw [List.head?_eq_getElem?, List.getElem?_eq_getElem h]
  rfl
theorem Gd.lgo {seq now : Int} {rs : List Rec} {ls : List (List Int)} (g : Gd park seq now rs ls) : ∀ r ∈ rs, LgO r := fun r hr hs => by
  have h := g.rc r hr
  have hn := g.now
  have hmc : park.mc = 36 := rfl
  rw [hmc] at hn
  have h1 := sh_live h.sh (by omega)
  refine ⟨h1, ?_⟩
  rw [fst0_at h1]
  have h2 := (h.lg _ (List.getElem_mem h1)).2
  have h3 := ((g.rn r hr).lg _ (List.getElem_mem h1)).2.1
  have h8 : park.hz = 8 := rfl
  rw [h8] at h2
  exact ⟨h3, by omega⟩
def sw1 (now : Int) (r : Rec) : Rec := if isE now r then { r with st := 6 } else r
def sw2 (now : Int) (r : Rec) : Rec := if isS park now r then { r with st := 5 } else r
def sw3 (now : Int) (r : Rec) : Rec := if isL park now r then { r with st := 9 } else r
theorem sw_all {now : Int} {r : Rec} : isS park now (sw1 now r) = isS park now r ∧ isL park now (sw2 now (sw1 now r)) = isL park now r ∧ sw3 now (sw2 now (sw1 now r)) = swR park now r := by
  cases hE : isE now r with
  | true =>
    have h1 : r.st = 1 := by unfold isE at hE; simp only [Bool.and_eq_true, decide_eq_true_eq] at hE; exact hE.1
    have e1 : sw1 now r = { r with st := 6 } := by unfold sw1; rw [hE]; rfl
    have s1 : isS park now { r with st := 6 } = false := by unfold isS; simp
    have s2 : isS park now r = false := by unfold isS; rw [h1]; simp
    have e2 : sw2 now { r with st := 6 } = { r with st := 6 } := by unfold sw2; rw [s1]; rfl
    have l1 : isL park now { r with st := 6 } = false := by unfold isL; simp
    have l2 : isL park now r = false := by unfold isL; rw [h1]; simp
    refine ⟨by rw [e1, s1, s2], by rw [e1, e2, l1, l2], ?_⟩
    rw [e1, e2]
    unfold sw3 swR
    rw [l1, hE]
    rfl
  | false =>
    have e1 : sw1 now r = r := by unfold sw1; rw [hE]; rfl
    refine ⟨by rw [e1], ?_⟩
    rw [e1]
    cases hS : isS park now r with
    | true =>
      have h1 : r.st = 2 := by unfold isS at hS; simp only [Bool.and_eq_true, decide_eq_true_eq] at hS; exact hS.1
      have e2 : sw2 now r = { r with st := 5 } := by unfold sw2; rw [hS]; rfl
      have l1 : isL park now { r with st := 5 } = false := by unfold isL; simp
      have l2 : isL park now r = false := by unfold isL; rw [h1]; simp
      rw [e2, l1, l2]
      refine ⟨rfl, ?_⟩
      unfold sw3 swR
      rw [l1, hE, hS]
      rfl
    | false =>
      have e2 : sw2 now r = r := by unfold sw2; rw [hS]; rfl
      rw [e2]
      refine ⟨rfl, ?_⟩
      unfold sw3 swR
      rw [hE, hS]
      rfl
theorem set_id {α : Type} {l : List α} {j : Nat} (hj : j < l.length) : l.set j l[j] = l := List.set_getElem_self hj
theorem b2n {b : Bool} : (if b then (1 : Nat) else 0) = (if b = true then 1 else 0) := rfl
section
variable {O G O2 O' S F : Nat → Prop} {w w' w0 : World} {m c ib rb j : Nat} {now : Int} {iv t3 t7 t8 t9 t72 t73 : Value} {s s2 : Ms} {K : Value → World → Prop} {X : World → Prop} {seq : Int} {B1 : List Value → World → Prop} {σ : Sg} {q : Rq}
theorem Mo.len {Y : Value → World → Prop} (h : Mo O G w m s) (hY : Y (I (s.rs.length : Nat)) w) : ld1 (P m 15) (fun t w => lnS t Y w) w := by
  obtain ⟨va, vt, rv, lv, rob, lob, its, ps, x, e1, e2⟩ := h
  have hil : its.length = s.rs.length := by rw [← e1, List.length_map]
  refine ld1_r (v := rv) x.row rfl (x.rsl.ln ?_)
  rw [hil]
  exact hY
/-- the slot of a record's first leg -/
theorem Mq.slot0 {Y : Value → World → Prop} (h : Mq O G w m s rb) (hj : j < s.rs.length) (hl : LgO s.rs[j]) (hs : s.rs[j].st = 1 ∨ s.rs[j].st = 2 ∨ s.rs[j].st = 8) (hY : Y (I (fst0 s.rs[j]).s) w) :
    ld1 (P rb (j * 7 + 6)) (fun t _ => ixs 2 t (I 0) (fun t _ => fd 1 t (fun t _ => ld1 t Y w) w) w) w := by
  obtain ⟨h1, _, _⟩ := hl hs
  rw [fst0_at h1] at hY
  refine h.legs hj fun v a => ?_
  refine a.ix (i := 0) h1 fun b o _ cc => ?_
  simp only [e_fd]
  exact cc.ld1 (j := 1) (v := I s.rs[j].legs[0].s) rfl hY
set_option maxHeartbeats 1000000 in
theorem sw_8 {e : Nat} (h : Mq O G w m s rb) (hj : j < s.rs.length) (he : e ≤ 1000)
    (hX : ∀ w', Mq O G w' m ⟨s.now, s.rs.set j (sw1 s.now s.rs[j]), s.ls⟩ rb → Kp O w w' → s94_p6 K B1 (P m 0) t3 (I ((e + (if isE s.now s.rs[j] then 1 else 0) : Nat) : Int)) t8 t9 (P rb (j * 7)) t72 t73 w') :
    s94_p8 K B1 (P m 0) t3 (I (e : Nat)) t8 t9 (P rb (j * 7)) t72 t73 w := by
  unfold s94_p8 s94_p8_d
  have kd : Kp Emp w (drw w) := kp_drw
  generalize drw w = w1 at kd ⊢
  have h1 := h.kp' kd
  refine nk2 (fd2 (h1.cell hj (show 1 < 6 by decide) (x := I s.rs[j].st) rfl ?_))
  simp only [e_eql]
  have no : isE s.now s.rs[j] = false → s94_p6 K B1 (P m 0) t3 (I (e : Nat)) t8 t9 (P rb (j * 7)) t72 t73 w1 := fun hE => by
    have := hX w1 (by unfold sw1; rw [hE]; rw [if_neg (by decide), set_id hj]; exact h1) kd.none
    rw [hE] at this
    exact this
  cases h1s : (s.rs[j].st == 1) with
  | false =>
    simp only [e_gdft, e_pkf]
    unfold s94_p7
    simp only [e_iff]
    refine no ?_
    unfold isE
    rw [decide_eq_false (by intro q; rw [q] at h1s; cases h1s)]
    rfl
  | true =>
    simp only [e_gdtt, e_pkt]
    refine nk0 (fdp (h1.mo.nw ?_))
    refine nk2 (fd2 (h1.cell hj (show 5 < 6 by decide) (x := I s.rs[j].ex) rfl ?_))
    simp only [e_geq, e_pkt]
    have hE : isE s.now s.rs[j] = decide (s.rs[j].ex ≤ s.now) := by
      unfold isE
      rw [decide_eq_true (eq_of_beq h1s)]
      rfl
    unfold s94_p7
    cases hd : decide (s.rs[j].ex ≤ s.now) with
    | false => rw [hd] at hE; simp only [e_iff]; exact no hE
    | true =>
      rw [hd] at hE
      simp only [e_ift]
      refine nk2 (fd2 (h1.set hj fun w2 h2 hk2 hz2 => ?_))
      simp only [e_add]
      rw [inc e (by omega)]
      have := hX w2 (by unfold sw1; rw [hE, if_pos rfl]; exact h2) (kd.none.trans hk2)
      rw [hE] at this
      exact this
set_option maxHeartbeats 1000000 in
theorem sw_6 {e : Nat} (h : Mq O G w m s rb) (hj : j < s.rs.length) (hl : LgO s.rs[j]) (he : e ≤ 1000)
    (hX : ∀ w', Mq O G w' m ⟨s.now, s.rs.set j (sw2 s.now s.rs[j]), s.ls⟩ rb → Kp O w w' → s94_p4 K B1 (P m 0) t3 t7 (I ((e + (if isS park s.now s.rs[j] then 1 else 0) : Nat) : Int)) t9 (P rb (j * 7)) t72 t73 w') :
    s94_p6 K B1 (P m 0) t3 t7 (I (e : Nat)) t9 (P rb (j * 7)) t72 t73 w := by
  unfold s94_p6 s94_p6_d
  have kd : Kp Emp w (drw w) := kp_drw
  generalize drw w = w1 at kd ⊢
  have h1 := h.kp' kd
  refine nk2 (fd2 (h1.cell hj (show 1 < 6 by decide) (x := I s.rs[j].st) rfl ?_))
  simp only [e_eql]
  have no : isS park s.now s.rs[j] = false → s94_p4 K B1 (P m 0) t3 t7 (I (e : Nat)) t9 (P rb (j * 7)) t72 t73 w1 := fun hE => by
    have := hX w1 (by unfold sw2; rw [hE]; rw [if_neg (by decide), set_id hj]; exact h1) kd.none
    rw [hE] at this
    exact this
  cases h1s : (s.rs[j].st == 2) with
  | false =>
    simp only [e_gdft, e_pkf]
    unfold s94_p5
    simp only [e_iff]
    refine no ?_
    unfold isS
    rw [decide_eq_false (by intro q; rw [q] at h1s; cases h1s)]
    rfl
  | true =>
    have hst := eq_of_beq h1s
    simp only [e_gdtt, e_pkt]
    refine nk0 (fdp (h1.mo.nw ?_))
    refine nk2 (fd2 (h1.slot0 hj hl (.inr (.inl hst)) ?_))
    refine nk0 (fdp (fdp (h1.mo.cf (n := 2) (fun _ _ _ _ => rfl) ?_)))
    obtain ⟨_, f0, f1⟩ := hl (.inr (.inl hst))
    simp only [e_add]
    rw [wrap64_id (by omega) (by omega)]
    simp only [e_geq, e_pkt]
    have hE : isS park s.now s.rs[j] = decide ((fst0 s.rs[j]).s + 2 ≤ s.now) := by
      unfold isS
      rw [decide_eq_true hst]
      rfl
    unfold s94_p5
    cases hd : decide ((fst0 s.rs[j]).s + 2 ≤ s.now) with
    | false => rw [hd] at hE; simp only [e_iff]; exact no hE
    | true =>
      rw [hd] at hE
      simp only [e_ift]
      refine nk2 (fd2 (h1.set hj fun w2 h2 hk2 hz2 => ?_))
      simp only [e_add]
      rw [inc e (by omega)]
      have := hX w2 (by unfold sw2; rw [hE, if_pos rfl]; exact h2) (kd.none.trans hk2)
      rw [hE] at this
      exact this
set_option maxHeartbeats 1000000 in
theorem sw_4 {e : Nat} (h : Mq O G w m s rb) (hj : j < s.rs.length) (hl : LgO s.rs[j]) (he : e ≤ 1000)
    (hX : ∀ w', Mq O G w' m ⟨s.now, s.rs.set j (sw3 s.now s.rs[j]), s.ls⟩ rb → Kp O w w' → s94_p2 K B1 (P m 0) t3 t7 t8 (I ((e + (if isL park s.now s.rs[j] then 1 else 0) : Nat) : Int)) t72 t73 w') :
    s94_p4 K B1 (P m 0) t3 t7 t8 (I (e : Nat)) (P rb (j * 7)) t72 t73 w := by
  unfold s94_p4 s94_p4_d
  have kd : Kp Emp w (drw w) := kp_drw
  generalize drw w = w1 at kd ⊢
  have h1 := h.kp' kd
  refine nk2 (fd2 (h1.cell hj (show 1 < 6 by decide) (x := I s.rs[j].st) rfl ?_))
  simp only [e_eql]
  have no : isL park s.now s.rs[j] = false → s94_p2 K B1 (P m 0) t3 t7 t8 (I (e : Nat)) t72 t73 w1 := fun hE => by
    have := hX w1 (by unfold sw3; rw [hE]; rw [if_neg (by decide), set_id hj]; exact h1) kd.none
    rw [hE] at this
    exact this
  cases h1s : (s.rs[j].st == 8) with
  | false =>
    simp only [e_gdft, e_pkf]
    unfold s94_p3
    simp only [e_iff]
    refine no ?_
    unfold isL
    rw [decide_eq_false (by intro q; rw [q] at h1s; cases h1s)]
    rfl
  | true =>
    have hst := eq_of_beq h1s
    simp only [e_gdtt, e_pkt]
    refine nk0 (fdp (h1.mo.nw ?_))
    refine nk2 (fd2 (h1.slot0 hj hl (.inr (.inr hst)) ?_))
    refine nk0 (fdp (fdp (h1.mo.cf (n := 2) (fun _ _ _ _ => rfl) ?_)))
    obtain ⟨_, f0, f1⟩ := hl (.inr (.inr hst))
    simp only [e_add]
    rw [wrap64_id (by omega) (by omega)]
    simp only [e_geq, e_pkt]
    have hE : isL park s.now s.rs[j] = decide ((fst0 s.rs[j]).s + 2 ≤ s.now) := by
      unfold isL
      rw [decide_eq_true hst]
      rfl
    unfold s94_p3
    cases hd : decide ((fst0 s.rs[j]).s + 2 ≤ s.now) with
    | false => rw [hd] at hE; simp only [e_iff]; exact no hE
    | true =>
      rw [hd] at hE
      simp only [e_ift]
      refine nk2 (fd2 (h1.set hj fun w2 h2 hk2 hz2 => ?_))
      simp only [e_add]
      rw [inc e (by omega)]
      have := hX w2 (by unfold sw3; rw [hE, if_pos rfl]; exact h2) (kd.none.trans hk2)
      rw [hE] at this
      exact this
end
end Go.Proofs.Qxb6500896aGreat
