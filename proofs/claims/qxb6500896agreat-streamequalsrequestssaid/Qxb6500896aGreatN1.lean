import Derived.Test.Qxb6500896aGreatK41
namespace Go.Proofs.Qxb6500896aGreat
open Go.Sh Go.RowKit
set_option linter.unusedVariables false
set_option linter.unusedSimpArgs false

/-! sums over the records -/
theorem sum_set {g h : Rec → Int} : ∀ {rs : List Rec} {i : Nat} {r' : Rec} (hi : i < rs.length), h rs[i] = 0 → (∀ j (hj : j < rs.length), j ≠ i → g rs[j] = h rs[j]) → ((rs.set i r').map g).sum = (rs.map h).sum + g r'
  | [], i, r', hi, _, _ => by simp at hi
  | a :: rs, 0, r', hi, h0, hj => by
    have e : rs.map g = rs.map h := by
      apply List.map_congr_left
      intro r hr
      obtain ⟨j, hj', rfl⟩ := List.mem_iff_getElem.1 hr
      exact hj (j + 1) (by simpa using hj') (by omega)
    have h0' : h a = 0 := h0
    simp only [List.set_cons_zero, List.map_cons, List.sum_cons, e]
    omega
  | a :: rs, i + 1, r', hi, h0, hj => by
    have ih := sum_set (g := g) (h := h) (rs := rs) (i := i) (r' := r') (by simpa using hi) (by simpa using h0) (fun j hj' hne => hj (j + 1) (by simpa using hj') (by omega))
    have ha : g a = h a := hj 0 (by simp) (by omega)
    simp only [List.set_cons_succ, List.map_cons, List.sum_cons]
    omega
theorem sum_set_le {g : Rec → Int} : ∀ {rs : List Rec} {i : Nat} {r' : Rec} (hi : i < rs.length), g r' ≤ g rs[i] → ((rs.set i r').map g).sum ≤ (rs.map g).sum
  | [], i, r', hi, _ => by simp at hi
  | a :: rs, 0, r', hi, h0 => by
    have h0' : g r' ≤ g a := h0
    simp only [List.set_cons_zero, List.map_cons, List.sum_cons]
    omega
  | a :: rs, i + 1, r', hi, h0 => by
    have ih := sum_set_le (g := g) (rs := rs) (i := i) (r' := r') (by simpa using hi) (by simpa using h0)
    simp only [List.set_cons_succ, List.map_cons, List.sum_cons]
    omega
theorem sum_le {g h : Rec → Int} : ∀ {rs : List Rec}, (∀ r ∈ rs, g r ≤ h r) → (rs.map g).sum ≤ (rs.map h).sum
  | [], _ => by simp
  | a :: rs, q => by
    have ih := sum_le (rs := rs) (fun r hr => q r (List.mem_cons_of_mem _ hr))
    have := q a List.mem_cons_self
    simp only [List.map_cons, List.sum_cons]
    omega
theorem sum_ex {g : Rec → Int} : ∀ {rs : List Rec}, (rs.map g).sum ≠ 0 → ∃ r ∈ rs, g r ≠ 0
  | [], h => by simp at h
  | a :: rs, h => by
    by_cases q : g a = 0
    · obtain ⟨r, hr, e⟩ := sum_ex (g := g) (rs := rs) (by simpa [q] using h)
      exact ⟨r, List.mem_cons_of_mem _ hr, e⟩
    · exact ⟨a, List.mem_cons_self, q⟩
theorem sumL_ex {p : Leg → Bool} {sz : Int} : ∀ {ls : List Leg}, sumL p sz ls ≠ 0 → ∃ l ∈ ls, p l = true
  | [], h => by simp [sumL] at h
  | l :: ls, h => by
    cases q : p l with
    | true => exact ⟨l, List.mem_cons_self, q⟩
    | false =>
      obtain ⟨x, hx, e⟩ := sumL_ex (p := p) (sz := sz) (ls := ls) (by simpa [sumL, q] using h)
      exact ⟨x, List.mem_cons_of_mem _ hx, e⟩
theorem dwell_eq (C : Cfg) (a : Int) : dwell C a = (attOf C a).dw := by
  unfold dwell attOf
  cases C.ats[a.toNat]? <;> rfl
theorem legIn_iff {C : Cfg} {a x : Int} {l : Leg} : legIn C a x l = true ↔ l.a = a ∧ l.s ≤ x ∧ x < l.s + (attOf C a).dw := by
  unfold legIn
  rw [dwell_eq]
  simp
theorem legAt_iff {a s : Int} {l : Leg} : legAt a s l = true ↔ l.a = a ∧ l.s = s := by unfold legAt; simp
theorem inside_app (C : Cfg) (rs : List Rec) (r : Rec) (a x k : Int) : inside C (rs ++ [r]) a x k = inside C rs a x k + recIn C a x k r := by
  unfold inside; rw [List.map_append, List.sum_append]; simp
theorem entered_app (rs : List Rec) (r : Rec) (a s c k : Int) : entered (rs ++ [r]) a s c k = entered rs a s c k + recAt a s c k r := by
  unfold entered; rw [List.map_append, List.sum_append]; simp
theorem recIn_nn {C : Cfg} {a x k : Int} {r : Rec} (h : 0 ≤ r.sz) : 0 ≤ recIn C a x k r := by
  unfold recIn; split
  · exact (sumL_b h _).1
  · omega
theorem recAt_nn {a s c k : Int} {r : Rec} (h : 0 ≤ r.sz) : 0 ≤ recAt a s c k r := by
  unfold recAt; split
  · exact (sumL_b h _).1
  · omega
theorem recIn_dead {C : Cfg} {a x k : Int} {r : Rec} (h : live r.st = false) : recIn C a x k r = 0 := by unfold recIn; rw [h]; rfl
theorem recAt_dead {a s c k : Int} {r : Rec} (h : live r.st = false) : recAt a s c k r = 0 := by unfold recAt; rw [h]; rfl
/-! what the test of legs says -/
section
variable {C : Cfg} {rs : List Rec} {cls sz skip : Int} {ls : List Leg}
theorem fits_cap (h : fits C rs cls sz ls skip = 0) {a x : Int} (h0 : inside C rs a x skip ≤ (attOf C a).cap) : inside C rs a x skip + sumL (legIn C a x) sz ls ≤ (attOf C a).cap := by
  unfold fits at h
  by_cases hc : ls.all (capLeg C rs sz ls skip) = true
  · by_cases hs : sumL (legIn C a x) sz ls = 0
    · omega
    · obtain ⟨l, hl, e⟩ := sumL_ex hs
      obtain ⟨e1, e2, e3⟩ := legIn_iff.1 e
      have := List.all_eq_true.1 hc l hl
      unfold capLeg at this
      have := List.all_eq_true.1 this (x - l.s).toNat (by rw [List.mem_range, e1]; omega)
      unfold capAt at this
      rw [show l.s + (((x - l.s).toNat : Nat) : Int) = x by omega, e1] at this
      simpa using this
  · rw [if_neg hc] at h; omega
theorem fits_quo (h : fits C rs cls sz ls skip = 0) {a s : Int} (h0 : entered rs a s cls skip ≤ attQ (attOf C a) cls) : entered rs a s cls skip + sumL (legAt a s) sz ls ≤ attQ (attOf C a) cls := by
  unfold fits at h
  by_cases hc : ls.all (capLeg C rs sz ls skip) = true
  · rw [if_pos hc] at h
    by_cases hq : ls.all (quoLeg C rs cls sz ls skip) = true
    · by_cases hs : sumL (legAt a s) sz ls = 0
      · omega
      · obtain ⟨l, hl, e⟩ := sumL_ex hs
        obtain ⟨e1, e2⟩ := legAt_iff.1 e
        have := List.all_eq_true.1 hq l hl
        unfold quoLeg at this
        rw [e1, e2] at this
        simpa using this
    · rw [if_neg hq] at h; omega
  · rw [if_neg hc] at h; omega
theorem fits_tr (h : fits C rs cls sz ls skip = 0) : trLegs C ls = true := by
  unfold fits at h
  by_cases hc : ls.all (capLeg C rs sz ls skip) = true
  · rw [if_pos hc] at h
    by_cases hq : ls.all (quoLeg C rs cls sz ls skip) = true
    · rw [if_pos hq] at h
      by_cases ht : trLegs C ls = true
      · exact ht
      · rw [if_neg ht] at h; omega
    · rw [if_neg hq] at h; omega
  · rw [if_neg hc] at h; omega
end
/-- the loads are within their bounds everywhere -/
structure Ld (C : Cfg) (rs : List Rec) : Prop where
  cap : ∀ a x : Int, 0 ≤ a → a < ((C.ats.length : Nat) : Int) → inside C rs a x 0 ≤ (attOf C a).cap
  quo : ∀ a s c : Int, 0 ≤ a → a < ((C.ats.length : Nat) : Int) → 0 ≤ c → c < 3 → entered rs a s c 0 ≤ attQ (attOf C a) c
  tr : ∀ r ∈ rs, live r.st = true → trLegs C r.legs = true
/-- a record's id and size are positive -/
def Pos (rs : List Rec) : Prop := ∀ r ∈ rs, 1 ≤ r.id ∧ 0 ≤ r.sz
theorem att_b {C : Cfg} (cv : CV C) {a : Int} (h0 : 0 ≤ a) (h1 : a < ((C.ats.length : Nat) : Int)) : 1 ≤ (attOf C a).cap ∧ 1 ≤ (attOf C a).dw ∧ ∀ c, 0 ≤ attQ (attOf C a) c := by
  obtain ⟨n, rfl⟩ : ∃ n : Nat, a = n := ⟨a.toNat, by omega⟩
  have hn : n < C.ats.length := by omega
  rw [attOf_at hn]
  obtain ⟨⟨g1, _⟩, ⟨g2, _⟩, ⟨g3, _⟩, ⟨g4, _⟩, ⟨g5, _⟩⟩ := cv.at_ _ (List.getElem_mem hn)
  refine ⟨g1, g2, fun c => ?_⟩
  unfold attQ
  split
  · exact g3
  · split
    · exact g4
    · exact g5
theorem chkLoadL_iff {C : Cfg} {rs : List Rec} {cls : Int} : ∀ {ls : List Leg}, chkLoadL C rs cls ls = true ↔ (∀ l ∈ ls, capOk C rs l = true ∧ entered rs l.a l.s cls 0 ≤ attQ (attOf C l.a) cls) ∧ trLegs C ls = true
  | [] => by simp [chkLoadL, trLegs]
  | l :: ls => by
    rw [chkLoadL, trLegs]
    simp only [Bool.and_eq_true, decide_eq_true_eq, chkLoadL_iff (ls := ls), List.mem_cons, forall_eq_or_imp]
    constructor
    · rintro ⟨⟨⟨a, b⟩, c⟩, d, e⟩
      exact ⟨⟨⟨a, b⟩, d⟩, c, e⟩
    · rintro ⟨⟨⟨a, b⟩, d⟩, c, e⟩
      exact ⟨⟨⟨a, b⟩, c⟩, d, e⟩
section
variable {C : Cfg} {rs : List Rec}
theorem Ld.of (cv : CV C) (h : chkLoad C rs = true) : Ld C rs := by
  have key : ∀ r ∈ rs, live r.st = true → (∀ l ∈ r.legs, capOk C rs l = true ∧ entered rs l.a l.s r.cl 0 ≤ attQ (attOf C l.a) r.cl) ∧ trLegs C r.legs = true := fun r hr hl => by
    have := List.all_eq_true.1 h r hr
    rw [hl] at this
    exact chkLoadL_iff.1 (by simpa using this)
  refine ⟨fun a x h0 h1 => ?_, fun a s c h0 h1 c0 c1 => ?_, fun r hr hl => (key r hr hl).2⟩
  · have ab := att_b cv h0 h1
    by_cases q : inside C rs a x 0 = 0
    · omega
    · obtain ⟨r, hr, e⟩ := sum_ex (g := recIn C a x 0) q
      unfold recIn at e
      split at e
      · rename_i hl
        obtain ⟨l, hl2, e2⟩ := sumL_ex e
        obtain ⟨e1, e3, e4⟩ := legIn_iff.1 e2
        simp only [Bool.and_eq_true] at hl
        have := ((key r hr hl.1).1 l hl2).1
        unfold capOk at this
        have := List.all_eq_true.1 this (x - l.s).toNat (by rw [List.mem_range, e1]; omega)
        rw [show l.s + (((x - l.s).toNat : Nat) : Int) = x by omega, e1] at this
        simpa using this
      · exact absurd rfl e
  · have ab := att_b cv h0 h1
    by_cases q : entered rs a s c 0 = 0
    · have := ab.2.2 c; omega
    · obtain ⟨r, hr, e⟩ := sum_ex (g := recAt a s c 0) q
      unfold recAt at e
      split at e
      · rename_i hl
        obtain ⟨l, hl2, e2⟩ := sumL_ex e
        obtain ⟨e1, e3⟩ := legAt_iff.1 e2
        simp only [Bool.and_eq_true, beq_iff_eq] at hl
        have := ((key r hr hl.1.1).1 l hl2).2
        rw [e1, e3, hl.2] at this
        exact this
      · exact absurd rfl e
theorem Ld.chk (h : Ld C rs) (hR : ∀ r ∈ rs, RL C r) : chkLoad C rs = true := by
  unfold chkLoad
  rw [List.all_eq_true]
  intro r hr
  cases hl : live r.st with
  | false => rfl
  | true =>
    have rl := hR r hr
    show (!true || _) = true
    rw [Bool.not_true, Bool.false_or, chkLoadL_iff]
    refine ⟨fun l hl2 => ?_, h.tr r hr hl⟩
    have a0 := (rl.rn.lg l hl2).1.1
    have a1 := rl.at_ l hl2
    refine ⟨?_, h.quo _ _ _ a0 a1 rl.rn.cl.1 rl.cl⟩
    unfold capOk
    rw [List.all_eq_true]
    intro k hk
    exact decide_eq_true (h.cap _ _ a0 a1)
/-- smaller loads are within their bounds too -/
theorem Ld.less {rs' : List Rec} (h : Ld C rs) (h1 : ∀ a x, inside C rs' a x 0 ≤ inside C rs a x 0) (h2 : ∀ a s c, entered rs' a s c 0 ≤ entered rs a s c 0) (h3 : ∀ r ∈ rs', live r.st = true → trLegs C r.legs = true) : Ld C rs' :=
  ⟨fun a x q0 q1 => Int.le_trans (h1 a x) (h.cap a x q0 q1), fun a s c q0 q1 q2 q3 => Int.le_trans (h2 a s c) (h.quo a s c q0 q1 q2 q3), h3⟩
theorem recIn_new {a x k : Int} {r : Rec} (hl : live r.st = true) (hi : r.id ≠ k) : recIn C a x k r = sumL (legIn C a x) r.sz r.legs := by
  unfold recIn
  rw [hl, beq_eq_false_iff_ne.2 hi]; rfl
theorem recAt_new {a s c k : Int} {r : Rec} (hl : live r.st = true) (hi : r.id ≠ k) : recAt a s c k r = if r.cl = c then sumL (legAt a s) r.sz r.legs else 0 := by
  unfold recAt
  rw [hl, beq_eq_false_iff_ne.2 hi]
  by_cases q : r.cl = c
  · rw [if_pos q, q]; simp
  · rw [if_neg q]; simp [q]
theorem Ld.add {r : Rec} (h : Ld C rs) (hl : live r.st = true) (hi : 1 ≤ r.id) (hf : fits C rs r.cl r.sz r.legs 0 = 0) : Ld C (rs ++ [r]) := by
  refine ⟨fun a x q0 q1 => ?_, fun a s c q0 q1 q2 q3 => ?_, fun r' hr hl' => ?_⟩
  · rw [inside_app, recIn_new hl (by omega)]
    exact fits_cap hf (h.cap a x q0 q1)
  · rw [entered_app, recAt_new hl (by omega)]
    have h0 := h.quo a s c q0 q1 q2 q3
    split
    · rename_i e
      subst e
      exact fits_quo hf h0
    · omega
  · rcases List.mem_append.1 hr with q | q
    · exact h.tr r' q hl'
    · rw [List.mem_singleton.1 q]; exact fits_tr hf
/-- a record that counts nowhere is added -/
theorem Ld.add0 {r : Rec} (h : Ld C rs) (hl : live r.st = false) : Ld C (rs ++ [r]) := by
  refine h.less (fun a x => ?_) (fun a s c => ?_) fun r' hr hl' => ?_
  · rw [inside_app]; unfold recIn; rw [hl]; simp
  · rw [entered_app]; unfold recAt; rw [hl]; simp
  · rcases List.mem_append.1 hr with q | q
    · exact h.tr r' q hl'
    · rw [List.mem_singleton.1 q, hl] at hl'; cases hl'
theorem skip_in {a x k : Int} {r : Rec} (hp : 1 ≤ r.id ∧ 0 ≤ r.sz) : recIn C a x k r ≤ recIn C a x 0 r := by
  unfold recIn
  have : (r.id == 0) = false := beq_eq_false_iff_ne.2 (by omega)
  rw [this]
  cases live r.st <;> cases (r.id == k) <;> simp
  exact (sumL_b hp.2 _).1
theorem skip_at {a s c k : Int} {r : Rec} (hp : 1 ≤ r.id ∧ 0 ≤ r.sz) : recAt a s c k r ≤ recAt a s c 0 r := by
  unfold recAt
  have : (r.id == 0) = false := beq_eq_false_iff_ne.2 (by omega)
  rw [this]
  cases live r.st <;> cases (r.id == k) <;> cases (r.cl == c) <;> simp
  exact (sumL_b hp.2 _).1
/-- a record is put in the place of one that did not count or is passed over -/
theorem Ld.put {i : Nat} {r' : Rec} {skip : Int} (hi : i < rs.length) (h : Ld C rs) (hp : Pos rs) (hz : live rs[i].st = false ∨ rs[i].id = skip) (hne : ∀ j (hj : j < rs.length), j ≠ i → rs[j].id ≠ skip) (hid : 1 ≤ r'.id)
    (hl : live r'.st = true) (hf : fits C rs r'.cl r'.sz r'.legs skip = 0) : Ld C (rs.set i r') := by
  have j0 : ∀ j (hj : j < rs.length), (rs[j].id == 0) = false := fun j hj => beq_eq_false_iff_ne.2 (by have := (hp _ (List.getElem_mem hj)).1; omega)
  refine ⟨fun a x q0 q1 => ?_, fun a s c q0 q1 q2 q3 => ?_, fun r hr hl' => ?_⟩
  · have e : inside C (rs.set i r') a x 0 = inside C rs a x skip + recIn C a x 0 r' := by
      refine sum_set (g := recIn C a x 0) (h := recIn C a x skip) hi ?_ fun j hj q => ?_
      · unfold recIn
        rcases hz with q | q
        · rw [q]; simp
        · rw [q]; simp
      · unfold recIn
        rw [j0 j hj, beq_eq_false_iff_ne.2 (hne j hj q)]
    rw [e, recIn_new hl (by omega)]
    exact fits_cap hf (Int.le_trans (sum_le fun r hr => skip_in (hp r hr)) (h.cap a x q0 q1))
  · have e : entered (rs.set i r') a s c 0 = entered rs a s c skip + recAt a s c 0 r' := by
      refine sum_set (g := recAt a s c 0) (h := recAt a s c skip) hi ?_ fun j hj q => ?_
      · unfold recAt
        rcases hz with q | q
        · rw [q]; simp
        · rw [q]; simp
      · unfold recAt
        rw [j0 j hj, beq_eq_false_iff_ne.2 (hne j hj q)]
    have h0 : entered rs a s c skip ≤ attQ (attOf C a) c := Int.le_trans (sum_le fun r hr => skip_at (hp r hr)) (h.quo a s c q0 q1 q2 q3)
    rw [e, recAt_new hl (by omega)]
    split
    · rename_i e
      subst e
      exact fits_quo hf h0
    · omega
  · rcases List.mem_or_eq_of_mem_set hr with q | q
    · exact h.tr r q hl'
    · rw [q]; exact fits_tr hf
/-- the status of a record changes, and it counts no more than before -/
theorem Ld.stat {i : Nat} {s : Int} (hi : i < rs.length) (h : Ld C rs) (hp : Pos rs) (hs : live s = true → live rs[i].st = true) : Ld C (rs.set i { rs[i] with st := s }) := by
  have p := hp _ (List.getElem_mem hi)
  refine h.less (fun a x => sum_set_le hi ?_) (fun a s' c => sum_set_le hi ?_) fun r' hr hl' => ?_
  · cases hl : live s with
    | false => rw [recIn_dead (r := { rs[i] with st := s }) hl]; exact recIn_nn p.2
    | true => unfold recIn; simp only [hl, hs hl]; exact Int.le_refl _
  · cases hl : live s with
    | false => rw [recAt_dead (r := { rs[i] with st := s }) hl]; exact recAt_nn p.2
    | true => unfold recAt; simp only [hl, hs hl]; exact Int.le_refl _
  · rcases List.mem_or_eq_of_mem_set hr with q | q
    · exact h.tr r' q hl'
    · subst q
      exact h.tr rs[i] (List.getElem_mem hi) (hs hl')
theorem swR_same (C : Cfg) (now : Int) (r : Rec) : (swR C now r).id = r.id ∧ (swR C now r).cl = r.cl ∧ (swR C now r).sz = r.sz ∧ (swR C now r).ln = r.ln ∧ (swR C now r).ex = r.ex ∧ (swR C now r).legs = r.legs ∧ (live (swR C now r).st = true → live r.st = true ∧ swR C now r = r) := by
  unfold swR
  split
  · exact ⟨rfl, rfl, rfl, rfl, rfl, rfl, fun (q : live 6 = true) => absurd q (by decide)⟩
  · split
    · exact ⟨rfl, rfl, rfl, rfl, rfl, rfl, fun (q : live 5 = true) => absurd q (by decide)⟩
    · split
      · exact ⟨rfl, rfl, rfl, rfl, rfl, rfl, fun (q : live 9 = true) => absurd q (by decide)⟩
      · exact ⟨rfl, rfl, rfl, rfl, rfl, rfl, fun q => ⟨q, rfl⟩⟩
theorem Ld.sweep (now : Int) (h : Ld C rs) (hp : Pos rs) : Ld C (tSweep C now rs) := by
  unfold tSweep
  refine h.less (fun a x => ?_) (fun a s c => ?_) fun r' hr hl' => ?_
  · unfold inside
    rw [List.map_map]
    refine sum_le fun r hr => ?_
    show recIn C a x 0 (swR C now r) ≤ _
    have := swR_same C now r
    cases hl : live (swR C now r).st with
    | false => rw [recIn_dead hl]; exact recIn_nn (hp r hr).2
    | true => rw [(this.2.2.2.2.2.2 hl).2]; exact Int.le_refl _
  · unfold entered
    rw [List.map_map]
    refine sum_le fun r hr => ?_
    show recAt a s c 0 (swR C now r) ≤ _
    have := swR_same C now r
    cases hl : live (swR C now r).st with
    | false => rw [recAt_dead hl]; exact recAt_nn (hp r hr).2
    | true => rw [(this.2.2.2.2.2.2 hl).2]; exact Int.le_refl _
  · obtain ⟨r, hr0, rfl⟩ := List.mem_map.1 hr
    have := (swR_same C now r).2.2.2.2.2.2 hl'
    rw [this.2]
    exact h.tr r hr0 this.1
end
end Go.Proofs.Qxb6500896aGreat
