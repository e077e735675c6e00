import Derived.Test.Qxb6500896aGreatM8
namespace Go.Proofs.Qxb6500896aGreat
open Go.Sh Go.RowKit
set_option linter.unusedVariables false
set_option linter.unusedSimpArgs false

/-- a flat list as legs -/
def prs : List Int → List Leg
  | a :: b :: r => ⟨a, b⟩ :: prs r
  | _ => []
theorem prs_drop {l : List Int} {k : Nat} (h : 2 * k + 1 < l.length) : prs (l.drop (2 * k)) = ⟨l[2 * k], l[2 * k + 1]⟩ :: prs (l.drop (2 * (k + 1))) := by
  rw [List.drop_eq_getElem_cons (by omega : 2 * k < l.length), List.drop_eq_getElem_cons h, prs, show 2 * (k + 1) = 2 * k + 1 + 1 by omega]
theorem prs_end {l : List Int} {k : Nat} (h : ¬ 2 * k + 1 < l.length) : prs (l.drop (2 * k)) = [] := by
  have : (l.drop (2 * k)).length ≤ 1 := by rw [List.length_drop]; omega
  match hl : l.drop (2 * k), this with
  | [], _ => rfl
  | [a], _ => rfl
  | a :: b :: r, q => simp at q
theorem prs_len (l : List Int) : (prs l).length ≤ l.length := by
  have : ∀ n (l : List Int), l.length ≤ n → (prs l).length ≤ l.length := fun n => by
    induction n with
    | zero => intro l h; cases l with
      | nil => simp [prs]
      | cons _ _ => simp at h
    | succ n ih =>
      intro l h
      match l with
      | [] => simp [prs]
      | [a] => simp [prs]
      | a :: b :: r =>
        have := ih r (by simp at h; omega)
        simp only [prs, List.length_cons]
        omega
  exact this l.length l (Nat.le_refl _)
section
variable {F G : Nat → Prop} {w w' : World} {v lv : Value} {K : Value → World → Prop} {fl : List Int} {m : Nat} {s : Ms} {cls sz id slot : Int} {ls : List Leg}
theorem pairs_ok (h : Ar iC 1 F w v fl) (hF : ∀ b, F b → b < w.heap.size) (hl : fl.length ≤ 100000) (hK : ∀ w' v' b, Sl lC 2 w' 88 (some b) v' (prs fl) → w.heap.size ≤ b → Kp Emp w w' → K v' w') : cl Tryz.prog 87 #[v] K w := by
  apply c87
  unfold s87_p6
  refine Sl.empty (f := lC) (k := 2) (e := 88) fun w1 sl1 hk1 hz1 => ?_
  unfold s87_p5
  refine loop_m fl.length (fun n l w' => ∃ (k : Nat) (acc : List Leg) (v' : Value) (b : Nat), n + 2 * k ≤ fl.length + 1 ∧ fl.length ≤ n + 2 * k ∧ l = [v, v', I (2 * k : Nat)] ∧ Sl lC 2 w' 88 (some b) v' acc ∧ w.heap.size ≤ b ∧ Kp Emp w w' ∧ acc.length = k ∧ prs fl = acc ++ prs (fl.drop (2 * k))) ⟨0, [], _, _, by omega, by omega, rfl, sl1, Nat.le_refl _, hk1, rfl, by simp⟩ ?_
  rintro n l w2 ⟨k, acc, v2, b2, hn1, hn2, rfl, sl2, hb2, k2, hal, he⟩ B hB
  rw [s87_p5_Fe]
  unfold s87_p4
  simp only [e_add]
  rw [inc (2 * k) (by omega)]
  refine h.ln ?_
  by_cases hlt : 2 * k + 1 < fl.length
  · simp only [e_lss, decide_eq_true (show (((2 * k + 1 : Nat) : Int)) < ((fl.length : Nat) : Int) by omega), e_ift]
    unfold s87_p3 s87_p3_d
    have kd : Kp Emp w2 (drw w2) := kp_drw
    generalize drw w2 = w3 at kd ⊢
    have k3 := k2.trans kd
    refine (h.kp' k3).ix (by omega : 2 * k < fl.length) fun b1 o1 _ c1 => ?_
    refine c1.ld0 (v := I fl[2 * k]) rfl ?_
    simp only [e_add]
    rw [inc (2 * k) (by omega)]
    refine (h.kp' k3).ix hlt fun b3 o3 _ c3 => ?_
    refine c3.ld0 (v := I fl[2 * k + 1]) rfl ?_
    refine bdq_r (l := lC ⟨fl[2 * k], fl[2 * k + 1]⟩) rfl ?_
    have step : ∀ w4, Row w4 w3.heap.size 88 (lC ⟨fl[2 * k], fl[2 * k + 1]⟩) → Kp Emp w3 w4 → w4.heap.size = w3.heap.size + 1 → apq 88 [I 0, I 0] 16 v2 (.slice (some ⟨w3.heap.size, 0, none⟩) 1 1) (fun t25 w => s87_p2 K B v t25 (I (2 * k : Nat)) w) w4 := by
      intro w4 r4 hk4 hz4
      have hA4 : Ar lC 2 (fun b => b = w3.heap.size) w4 (.slice (some ⟨w3.heap.size, 0, none⟩) 1 1) [⟨fl[2 * k], fl[2 * k + 1]⟩] := Ar.row (xs := [(⟨fl[2 * k], fl[2 * k + 1]⟩ : Leg)]) lC_len (by rw [rows_cons, show rows lC ([] : List Leg) = [] from rfl, List.append_nil]; exact r4) rfl (by simp)
      refine Sl.app3 lC_len rfl (fun _ _ => lC_sc _) ((sl2.kp' kd).kp' hk4) (hA4.rds lC_len) (by simp; omega) (by simp; omega) fun w5 v5 ob5 sl5 hk5 ho5 => ?_
      have s3 := k3.size
      have hb5 : ∃ b5, ob5 = some b5 ∧ w.heap.size ≤ b5 := by
        rcases ho5 with q | ⟨c, q, hc⟩
        · exact ⟨_, q, hb2⟩
        · exact ⟨c, q, by omega⟩
      obtain ⟨b5, rfl, hb5⟩ := hb5
      unfold s87_p2
      simp only [e_add]
      rw [wrap64_id (by omega) (by omega), show ((2 * k : Nat) : Int) + 2 = ((2 * (k + 1) : Nat) : Int) by omega]
      refine hB (n - 2) _ _ (by omega) ⟨k + 1, acc ++ [⟨fl[2 * k], fl[2 * k + 1]⟩], v5, b5, by omega, by omega, rfl, sl5, hb5, (k3.trans hk4).then hk5 fun b hb e => by cases e; omega, by rw [List.length_append, hal]; rfl, ?_⟩
      rw [he, prs_drop hlt, List.append_assoc]
      rfl
    refine ⟨⟨(Kp.refl _ _).below', ?_⟩, ?_⟩
    · exact bsq_r (l := lC ⟨fl[2 * k], fl[2 * k + 1]⟩) rfl fun w4 r4 hk4 hz4 => step w4 r4 hk4 hz4
    · exact bsq_r (l := lC ⟨fl[2 * k], fl[2 * k + 1]⟩) rfl fun w4 r4 hk4 hz4 => ⟨hk4.below', step w4 r4 hk4 hz4⟩
  · simp only [e_lss, decide_eq_false (show ¬ (((2 * k + 1 : Nat) : Int)) < ((fl.length : Nat) : Int) by omega), e_iff]
    unfold s87_p1
    rw [prs_end hlt, List.append_nil] at he
    rw [← he] at sl2
    exact hK w2 v2 b2 sl2 hb2 k2
/-- a length and that many pairs, and nothing more -/
def lsted (l : List Int) (k : Nat) : Bool := match l[k]? with
  | none => false
  | some n => decide (n ≤ 8) && decide (((l.length : Nat) : Int) = ((k : Nat) : Int) + 1 + 2 * n)
theorem listed_ok {k : Nat} (h : Ar iC 1 F w v fl) (hl : fl.length ≤ 1000000000000) (hr : ∀ x ∈ fl, N63 x) (hk : k ≤ 10) (hK : K (.bool (lsted fl k)) w) : cl Tryz.prog 85 #[v, I (k : Nat)] K w := by
  apply c85
  unfold s85_p1
  unfold lsted at hK
  refine h.ln ?_
  by_cases hk1 : k < fl.length
  · rw [List.getElem?_eq_getElem hk1] at hK
    simp only [e_gtr, decide_eq_true (show ((k : Nat) : Int) < ((fl.length : Nat) : Int) by omega), e_gdtt]
    refine h.ix hk1 fun b1 o1 _ c1 => ?_
    refine c1.ld0 (v := I fl[k]) rfl ?_
    have hx := hr _ (List.getElem_mem hk1)
    simp only [e_leq, e_pkt]
    by_cases h8 : fl[k] ≤ 8
    · simp only [decide_eq_true h8, e_gdtt] at hK ⊢
      refine h.ln ?_
      simp only [e_add]
      rw [inc k (by omega)]
      refine h.ix hk1 fun b2 o2 _ c2 => ?_
      refine c2.ld0 (v := I fl[k]) rfl ?_
      have := hx.1
      simp only [e_mul, e_add, e_eql, e_pkt]
      rw [wrap64_id (n := 2 * fl[k]) (by omega) (by omega), wrap64_id (by omega) (by omega)]
      have e : (((fl.length : Nat) : Int) == ((k + 1 : Nat) : Int) + 2 * fl[k]) = (true && decide (((fl.length : Nat) : Int) = ((k : Nat) : Int) + 1 + 2 * fl[k])) := by
        rw [Bool.true_and, Bool.eq_iff_iff]
        simp
      rw [e]
      exact hK
    · simp only [decide_eq_false h8, e_gdft, e_pkf, Bool.false_and] at hK ⊢
      exact hK
  · rw [List.getElem?_eq_none (by omega)] at hK
    simp only [e_gtr, decide_eq_false (show ¬ ((k : Nat) : Int) < ((fl.length : Nat) : Int) by omega), e_gdft, e_pkf]
    exact hK
theorem party_ok (h : Mr F w m s) (hc : 0 ≤ cls) (hs : 0 ≤ sz) (hK : K (I (vParty park cls sz)) w) : cl Tryz.prog 144 #[P m 0, I cls, I sz] K w := by
  obtain ⟨va, vt, rv, lv, rm, _, _, _, _⟩ := h.parts
  apply c144
  unfold s144_p1
  unfold vParty at hK
  have hmp : park.mp = 5 := rfl
  rw [hmp] at hK
  by_cases h3 : 3 ≤ cls
  · simp only [e_geq, decide_eq_true h3, e_ift]
    rw [if_neg (by omega)] at hK
    exact hK
  · simp only [e_geq, decide_eq_false h3, e_iff]
    rw [if_pos (by omega)] at hK
    by_cases h0 : sz = 0
    · have e0 : (sz == 0) = true := by rw [h0]; rfl
      simp only [e_eql, e0, e_gdtf, e_pkt, e_ift]
      rw [if_neg (by omega)] at hK
      exact hK
    · have e0 : (sz == 0) = false := by rw [beq_eq_false_iff_ne]; exact h0
      simp only [e_eql, e0, e_gdff]
      refine nk0 (fdp (fdp (ld1_r (v := I 5) rm rfl ?_)))
      simp only [e_gtr, e_pkf]
      by_cases h5 : (5 : Int) < sz
      · simp only [decide_eq_true h5, e_ift]
        rw [if_neg (by omega)] at hK
        exact hK
      · simp only [decide_eq_false h5, e_iff]
        rw [if_pos (by omega)] at hK
        exact hK
theorem openM_ok (h : Mr F w m s) (hn : 0 ≤ s.now ∧ s.now ≤ 1000) (hs : N63 slot) (hK : ∀ w', Kp Emp w w' → K (.bool (isO park s.now slot)) w') : cl Tryz.prog 154 #[P m 0, I slot] K w := by
  obtain ⟨va, vt, rv, lv, rm, _, _, _, _⟩ := h.parts
  apply c154
  unfold s154_p3 s154_p2 s154_p2_d
  have kd : Kp Emp w (drw w) := kp_drw
  generalize drw w = wd at kd ⊢
  have rd := kd.row' rm
  unfold isO at hK
  have hhz : park.hz = 8 := rfl
  rw [hhz] at hK
  refine nk0 (fdp (ld1_r (v := I s.now) rd rfl ?_))
  by_cases h1 : s.now ≤ slot
  · simp only [e_leq, decide_eq_true h1, e_gdtt]
    refine nk0 (fdp (ld1_r (v := I s.now) rd rfl ?_))
    refine nk0 (fdp (fdp (ld1_r (v := I 8) rd rfl ?_)))
    simp only [e_add]
    rw [wrap64_id (by omega) (by omega)]
    simp only [e_lss, e_pkt]
    unfold s154_p1
    have e : decide (slot < s.now + 8) = (decide (s.now ≤ slot) && decide (slot - s.now < 8)) := by
      rw [decide_eq_true h1, Bool.true_and, Bool.eq_iff_iff]
      simp
      omega
    rw [e]
    exact hK wd kd
  · simp only [e_leq, decide_eq_false h1, e_gdft, e_pkf]
    unfold s154_p1
    rw [decide_eq_false h1, Bool.false_and] at hK
    exact hK wd kd
set_option maxHeartbeats 1000000 in
theorem ticket_ok (h : Mr F w m s) (hn : 0 ≤ s.now ∧ s.now ≤ 1000) (hl : Ar lC 2 G w lv ls) (hll : ls.length ≤ 1000) (hr : ∀ l ∈ ls, N63 l.a ∧ N63 l.s) (hK : ∀ w', Kp Emp w w' → K (I (vLegs park s.now ls)) w') : cl Tryz.prog 145 #[P m 0, lv] K w := by
  obtain ⟨va, vt, rv, lv', rm, ha, _, _, _⟩ := h.parts
  apply c145
  unfold s145_p11
  unfold vLegs at hK
  have hml : park.ml = 3 := rfl
  rw [hml] at hK
  refine hl.ln ?_
  by_cases h0 : ls.length = 0
  · have e0 : (((ls.length : Nat) : Int) == 0) = true := by rw [h0]; rfl
    simp only [e_eql, e0, e_gdtf, e_pkt, e_ift]
    rw [if_neg (by omega)] at hK
    exact hK w (Kp.refl _ _)
  · have e0 : (((ls.length : Nat) : Int) == 0) = false := by rw [beq_eq_false_iff_ne]; omega
    simp only [e_eql, e0, e_gdff]
    refine hl.ln ?_
    refine nk0 (fdp (fdp (ld1_r (v := I 3) rm rfl ?_)))
    simp only [e_gtr, e_pkf]
    by_cases h3 : (3 : Int) < ((ls.length : Nat) : Int)
    · simp only [decide_eq_true h3, e_ift]
      rw [if_neg (by omega)] at hK
      exact hK w (Kp.refl _ _)
    · simp only [decide_eq_false h3, e_iff]
      rw [if_pos (by omega)] at hK
      refine hl.ln ?_
      have h3a : park.ats.length = 3 := rfl
      unfold s145_p10
      refine loop_n ls.length (fun i l w' => l = [P m 0, lv, lv, I (ls.length : Nat), I (i : Nat)] ∧ Kp Emp w w' ∧ (ls.take i).all (fun l => hasA park l.a) = true) ⟨rfl, Kp.refl _ _, rfl⟩ ?_ ?_
      · rintro i l w1 hi ⟨rfl, k1, hall⟩ B hB
        rw [s145_p10_Fe]
        unfold s145_p9
        simp only [dlt hi, e_lss, e_ift]
        unfold s145_p8
        refine each_r rfl (hl.kp' k1) hi (lC_len _) (lC_sc _) fun w2 r2 hk2 hz2 => ?_
        unfold s145_p7 s145_p7_d
        have kd : Kp Emp w2 (drw w2) := kp_drw
        generalize drw w2 = wd at kd ⊢
        have kd' := (k1.trans hk2).trans kd
        have hx := hr _ (List.getElem_mem hi)
        refine fdp (ld1_r (v := I ls[i].a) (kd.row' r2) rfl ?_)
        refine nk0 (fdp (fdp (ld1_r (v := va) (kd'.row' rm) rfl ?_)))
        refine ha.ln ?_
        unfold s145_p6
        by_cases hge : ((park.ats.length : Nat) : Int) ≤ ls[i].a
        · simp only [e_geq, decide_eq_true hge, e_ift]
          have : ls.all (fun l => hasA park l.a) = false := by
            rw [List.all_eq_false]
            refine ⟨ls[i], List.getElem_mem hi, ?_⟩
            unfold hasA
            rw [decide_eq_false (show ¬ ls[i].a < ((park.ats.length : Nat) : Int) by omega)]
            simp
          rw [this, if_neg (by decide)] at hK
          exact hK wd kd'
        · simp only [e_geq, decide_eq_false hge, e_iff]
          unfold s145_p5
          simp only [e_add]
          rw [inc i (by omega)]
          refine hB _ _ ⟨rfl, kd', ?_⟩
          rw [List.take_succ_eq_append_getElem hi, List.all_append, hall]
          simp only [List.all_cons, List.all_nil, Bool.and_true, Bool.true_and]
          unfold hasA
          rw [decide_eq_true hx.1.1, decide_eq_true (by omega)]
          rfl
      · rintro l w1 ⟨rfl, k1, hall⟩ B
        rw [s145_p10_Fe]
        unfold s145_p9
        simp only [dnlt, e_lss, e_iff]
        rw [List.take_length] at hall
        rw [hall, if_pos rfl] at hK
        unfold s145_p4
        refine hl.ln ?_
        unfold s145_p3
        refine loop_n ls.length (fun i l w' => l = [P m 0, lv, I (ls.length : Nat), I (i : Nat)] ∧ Kp Emp w w' ∧ (ls.take i).all (fun l => isO park s.now l.s) = true) ⟨rfl, k1, rfl⟩ ?_ ?_
        · rintro i l w2 hi ⟨rfl, k2, hall2⟩ B2 hB2
          rw [s145_p3_Fe]
          unfold s145_p2
          simp only [dlt hi, e_lss, e_ift]
          refine each_r rfl (hl.kp' k2) hi (lC_len _) (lC_sc _) fun w3 r3 hk3 hz3 => ?_
          refine fdp (ld1_r (v := I ls[i].s) r3 rfl ?_)
          have hx := hr _ (List.getElem_mem hi)
          refine openM_ok (h.kp' (k2.trans hk3)) hn hx.2 fun w4 k4 => ?_
          have k4' := (k2.trans hk3).trans k4
          cases ho : isO park s.now ls[i].s with
          | false =>
            simp only [e_not, Bool.not_false, e_ift]
            have : ls.all (fun l => isO park s.now l.s) = false := by
              rw [List.all_eq_false]
              exact ⟨ls[i], List.getElem_mem hi, by simp [ho]⟩
            rw [this, if_neg (by decide)] at hK
            exact hK w4 k4'
          | true =>
            simp only [e_not, Bool.not_true, e_iff, e_add]
            rw [inc i (by omega)]
            refine hB2 _ _ ⟨rfl, k4', ?_⟩
            rw [List.take_succ_eq_append_getElem hi, List.all_append, hall2]
            simp [ho]
        · rintro l w2 ⟨rfl, k2, hall2⟩ B2
          rw [s145_p3_Fe]
          unfold s145_p2
          simp only [dnlt, e_lss, e_iff]
          unfold s145_p1
          rw [List.take_length] at hall2
          rw [hall2, if_pos rfl] at hK
          exact hK w2 k2
theorem known_ok (h : Mr F w m s) (hK : K (.bool (decide (has s.rs id))) w) : cl Tryz.prog 148 #[P m 0, I id] K w := by
  obtain ⟨va, vt, rv, lv, rm, _, _, hr, _⟩ := h.parts
  apply c148
  unfold s148_p1
  unfold has at hK
  by_cases h1 : (1 : Int) ≤ id
  · simp only [e_leq, decide_eq_true h1, e_gdtt]
    refine nk0 (fdp (ld1_r (v := rv) rm rfl ?_))
    refine hr.ln ?_
    simp only [e_leq, e_pkt]
    have e : decide (1 ≤ id ∧ id ≤ ((s.rs.length : Nat) : Int)) = decide (id ≤ ((s.rs.length : Nat) : Int)) := by
      rw [Bool.eq_iff_iff]; simp [h1]
    rw [e] at hK
    exact hK
  · simp only [e_leq, decide_eq_false h1, e_gdft, e_pkf]
    have e : decide (1 ≤ id ∧ id ≤ ((s.rs.length : Nat) : Int)) = false := by rw [decide_eq_false_iff_not]; omega
    rw [e] at hK
    exact hK
end
end Go.Proofs.Qxb6500896aGreat
