import Derived.Test.Qxb6500897aP27
namespace Go.Proofs.Qxb6500897a
open Go.Sh Go.RowKit
set_option linter.unusedVariables false
set_option linter.unusedSimpArgs false

/-! ### firstFit, purely -/
/-- the party fits at a slot, by the ring -/
def FitO (t : Tab) (c : Nat) (n s : Int) : Prop := (∀ u, s ≤ u → u < s + t.att.dwell → occOf t u ≤ t.att.cap - n) ∧ n ≤ t.att.q c - admOf t s c

theorem ffN_spec {t : Tab} {c : Nat} {n frm to : Int} (d1 : 1 ≤ t.att.dwell) : ∀ (f : Nat) (run v : Int), frm ≤ v → f = (to + (t.att.dwell - 1) + 1 - v).toNat → 0 ≤ run → run ≤ v - frm →
    (∀ u, v - run ≤ u → u < v → occOf t u ≤ t.att.cap - n) → (run < v - frm → t.att.cap - n < occOf t (v - run - 1)) →
    (∀ s, ffN t c n to f run v = some s → v - t.att.dwell < s ∧ frm ≤ s ∧ s ≤ to ∧ FitO t c n s ∧ ∀ x, v - t.att.dwell < x → frm ≤ x → x < s → ¬ FitO t c n x) ∧
    (ffN t c n to f run v = none → ∀ x, v - t.att.dwell < x → frm ≤ x → x ≤ to → ¬ FitO t c n x) := by
  intro f
  induction f with
  | zero =>
    intro run v hv hf r0 r1 hu hb
    rw [ffN]
    refine ⟨by simp, fun _ x x0 x1 x2 => by omega⟩
  | succ f ih =>
    intro run v hv hf r0 r1 hu hb
    rw [ffN]
    by_cases hle : v ≤ to + (t.att.dwell - 1)
    · rw [if_pos hle]
      have eo : t.occ.getD ((v + (t.att.dwell - 1)).toNat % t.occ.length) 0 = occOf t v := rfl
      have ea : t.adm.getD ((v - (t.att.dwell - 1) + (t.att.dwell - 1)).toNat % t.occ.length * 3 + c) 0 = admOf t (v - (t.att.dwell - 1)) c := rfl
      rw [eo, ea]
      -- the new run
      obtain ⟨run', er, q0, q1, qu, qb⟩ : ∃ run' : Int, (if occOf t v ≤ t.att.cap - n then run + 1 else 0) = run' ∧ 0 ≤ run' ∧ run' ≤ v + 1 - frm ∧
          (∀ u, v + 1 - run' ≤ u → u < v + 1 → occOf t u ≤ t.att.cap - n) ∧ (run' < v + 1 - frm → t.att.cap - n < occOf t (v + 1 - run' - 1)) := by
        by_cases ho : occOf t v ≤ t.att.cap - n
        · rw [if_pos ho]
          refine ⟨_, rfl, by omega, by omega, fun u u0 u1 => ?_, fun hlt => ?_⟩
          · by_cases e : u = v
            · rw [e]; exact ho
            · exact hu u (by omega) (by omega)
          · have e : v + 1 - (run + 1) - 1 = v - run - 1 := by omega
            rw [e]; exact hb (by omega)
        · rw [if_neg ho]
          refine ⟨_, rfl, by omega, by omega, fun u u0 u1 => by omega, fun hlt => ?_⟩
          have e : v + 1 - 0 - 1 = v := by omega
          rw [e]; omega
      rw [er]
      have IH := ih run' (v + 1) (by omega) (by omega) q0 q1 qu qb
      -- the slot that the round decides
      have lift : (frm ≤ v - (t.att.dwell - 1) → ¬ FitO t c n (v - (t.att.dwell - 1))) →
          (∀ s, ffN t c n to f run' (v + 1) = some s → v - t.att.dwell < s ∧ frm ≤ s ∧ s ≤ to ∧ FitO t c n s ∧ ∀ x, v - t.att.dwell < x → frm ≤ x → x < s → ¬ FitO t c n x) ∧
          (ffN t c n to f run' (v + 1) = none → ∀ x, v - t.att.dwell < x → frm ≤ x → x ≤ to → ¬ FitO t c n x) := by
        intro hno
        refine ⟨fun s hs => ?_, fun hs x x0 x1 x2 => ?_⟩
        · obtain ⟨a1, a2, a3, a4, a5⟩ := IH.1 s hs
          refine ⟨by omega, a2, a3, a4, fun x x0 x1 x2 => ?_⟩
          by_cases e : x = v - (t.att.dwell - 1)
          · rw [e]; exact hno (by omega)
          · exact a5 x (by omega) x1 x2
        · by_cases e : x = v - (t.att.dwell - 1)
          · rw [e]; exact hno (by omega)
          · exact IH.2 hs x (by omega) x1 x2
      by_cases hr : run' < t.att.dwell
      · rw [if_pos hr]
        refine lift fun hf2 hfit => ?_
        have h1 := qb (by omega)
        have h2 := hfit.1 (v + 1 - run' - 1) (by omega) (by omega)
        omega
      · rw [if_neg hr]
        by_cases hq : n ≤ t.att.q c - admOf t (v - (t.att.dwell - 1)) c
        · rw [if_pos hq]
          refine ⟨fun s hs => ?_, by simp⟩
          have e : v - (t.att.dwell - 1) = s := by simpa using hs
          subst e
          refine ⟨by omega, by omega, by omega, ⟨fun u u0 u1 => qu u (by omega) (by omega), hq⟩, fun x x0 x1 x2 => by omega⟩
        · rw [if_neg hq]
          exact lift fun _ hfit => hq hfit.2
    · rw [if_neg hle]
      refine ⟨by simp, fun _ x x0 x1 x2 => by omega⟩

/-- the first slot of k slots that pleases -/
def ffS (p : Int → Bool) : Nat → Int → Option Int
  | 0, _ => none
  | k + 1, s => if p s then some s else ffS p k (s + 1)

theorem ffS_is {p : Int → Bool} (r : Option Int) : ∀ (k : Nat) (s : Int), (∀ x, r = some x → s ≤ x ∧ x < s + k ∧ p x = true ∧ ∀ y, s ≤ y → y < x → p y = false) → (r = none → ∀ y, s ≤ y → y < s + k → p y = false) → ffS p k s = r := by
  intro k
  induction k with
  | zero =>
    intro s h1 h2
    rw [ffS]
    cases r with
    | none => rfl
    | some x => have := h1 x rfl; omega
  | succ k ih =>
    intro s h1 h2
    rw [ffS]
    cases r with
    | none =>
      have := h2 rfl s (by omega) (by omega)
      rw [this]
      exact ih (s + 1) (by simp) (fun _ y y0 y1 => h2 rfl y (by omega) (by omega))
    | some x =>
      obtain ⟨x0, x1, x2, x3⟩ := h1 x rfl
      by_cases e : s = x
      · rw [e, x2]; rfl
      · have := x3 s (by omega) (by omega)
        rw [this]
        refine ih (s + 1) (fun z hz => ?_) (by simp)
        have : x = z := by simpa using hz
        subst this
        exact ⟨by omega, by omega, x2, fun y y0 y1 => x3 y (by omega) y1⟩

theorem Ring.fitO {now : Int} {L : List Ent} {a c : Nat} {t : Tab} {s n : Int} (h : Ring now L a t) (n0 : 0 ≤ now) (s0 : now ≤ s) (s1 : s ≤ now + 5) (hc : c < 3) : fitsF t s c n = 0 ↔ FitO t c n s := by
  have hb := pa_bd a
  have hdw : (pa a).dwell = dw a := rfl
  rw [(h.fits (n := n) n0 s0 s1 hc).1]
  unfold FitO
  rw [h.att, hdw, h.adm s c (by omega) (by omega) hc]
  constructor
  · intro ⟨h1, h2⟩
    refine ⟨fun u u0 u1 => ?_, h2⟩
    rw [h.occ u (by omega) (by omega)]; exact h1 u u0 u1
  · intro ⟨h1, h2⟩
    refine ⟨fun u u0 u1 => ?_, h2⟩
    rw [← h.occ u (by omega) (by omega)]; exact h1 u u0 u1

/-- the slots among which FirstFit looks -/
def ffP (now : Int) (L : List Ent) (attr frm to cls n s : Int) : Bool := decide (frm ≤ s) && decide (s ≤ to) && decide (mFits now L attr s cls n = 0)

theorem chkP_at {now attr slot slot' cls n n' : Int} (h : chkP now attr slot cls n 0 = 0) (s0 : now ≤ slot') (s1 : slot' ≤ now + 5) (hn : 1 ≤ n') : chkP now attr slot' cls n' 0 = 0 := by
  have hk := chkP_ok h
  unfold chkP
  rw [if_neg (by omega), if_neg (by omega), if_neg (by omega), if_neg (by simp; omega)]

theorem Good.ffAll {now : Int} {ts : List Tab} {L : List Ent} (h : Good now ts L) {attr frm to cls n : Int} (hc : chkP now attr now cls n 0 = 0) :
    ffAll now ts attr frm to cls n = ffS (ffP now L attr frm to cls n) 6 now := by
  have hk := chkP_ok hc
  simp at hk
  have ha : attr.toNat < ts.length := by rw [h.len]; omega
  have hr := h.ring _ ha
  have hb := pa_bd attr.toNat
  have hdw : (pa attr.toNat).dwell = dw attr.toNat := rfl
  have ed : ts[attr.toNat].att.dwell = dw attr.toNat := by rw [hr.att]
  have n0 := h.inv.n0
  have hfit : ∀ s, now ≤ s → s ≤ now + 5 → (mFits now L attr s cls n = 0 ↔ FitO ts[attr.toNat] cls.toNat n s) := by
    intro s s0 s1
    unfold mFits
    rw [if_pos (chkP_at hc s0 s1 (by omega)), ← hr.fitM n0 s0 s1 (by omega), hr.fitO n0 s0 s1 (by omega)]
  have hp : ∀ s, now ≤ s → s ≤ now + 5 → (ffP now L attr frm to cls n s = true ↔ frm ≤ s ∧ s ≤ to ∧ FitO ts[attr.toNat] cls.toNat n s) := by
    intro s s0 s1
    unfold ffP
    rw [← hfit s s0 s1]
    simp [and_assoc]
  have hpf : ∀ s, now ≤ s → s ≤ now + 5 → ¬ (frm ≤ s ∧ s ≤ to ∧ FitO ts[attr.toNat] cls.toNat n s) → ffP now L attr frm to cls n s = false := by
    intro s s0 s1 hno
    rw [Bool.eq_false_iff]
    intro e
    exact hno ((hp s s0 s1).1 e)
  symm
  unfold Go.Proofs.Qxb6500897a.ffAll
  rw [tabOf_eq ha]
  by_cases hle : max frm now ≤ min to (now + 5)
  · rw [if_pos hle]
    unfold ffF
    by_cases hbig : ts[attr.toNat].att.cap < n ∨ ts[attr.toNat].att.q cls.toNat < n
    · rw [if_pos hbig]
      refine ffS_is _ _ _ (by simp) fun _ y y0 y1 => hpf y y0 (by omega) ?_
      rintro ⟨_, _, hf1, hf2⟩
      have h1 := hf1 y (by omega) (by omega)
      rw [hr.occ y (by omega) (by omega)] at h1
      rw [hr.adm y cls.toNat (by omega) (by omega) (by omega)] at hf2
      have := (h.inv.ii attr.toNat y).1
      have := (h.inv.en attr.toNat y cls.toNat (by omega)).1
      omega
    · rw [if_neg hbig]
      have hs := ffN_spec (t := ts[attr.toNat]) (c := cls.toNat) (n := n) (frm := max frm now) (to := min to (now + 5)) (by omega) (min to (now + 5) + (ts[attr.toNat].att.dwell - 1) + 1 - max frm now).toNat 0 (max frm now) (by omega) rfl (by omega) (by omega)
        (fun u u0 u1 => by omega) (fun q => by omega)
      refine ffS_is _ _ _ (fun x hx => ?_) (fun hx y y0 y1 => ?_)
      · obtain ⟨a1, a2, a3, a4, a5⟩ := hs.1 x hx
        refine ⟨by omega, by omega, (hp x (by omega) (by omega)).2 ⟨by omega, by omega, a4⟩, fun y y0 y1 => ?_⟩
        refine hpf y (by omega) (by omega) ?_
        rintro ⟨b1, b2, b3⟩
        exact a5 y (by omega) (by omega) y1 b3
      · refine hpf y (by omega) (by omega) ?_
        rintro ⟨b1, b2, b3⟩
        exact hs.2 hx y (by omega) (by omega) (by omega) b3
  · rw [if_neg hle]
    refine ffS_is _ _ _ (by simp) fun _ y y0 y1 => hpf y y0 (by omega) ?_
    rintro ⟨_, _, _⟩
    omega

/-- Room -/
theorem Good.room {now : Int} {ts : List Tab} {L : List Ent} (h : Good now ts L) {attr slot cls : Int} (hc : chkP now attr slot cls 1 0 = 0) :
    let r := roomOf (tabOf ts attr) slot cls.toNat
    0 ≤ r ∧ r ≤ 12 ∧ (0 < r → mFits now L attr slot cls r = 0) ∧ ∀ n, r < n → mFits now L attr slot cls n ≠ 0 := by
  intro r
  have hk := chkP_ok hc
  simp at hk
  have ha : attr.toNat < ts.length := by rw [h.len]; omega
  have hr := h.ring _ ha
  have hb := pa_bd attr.toNat
  have hdw : (pa attr.toNat).dwell = dw attr.toNat := rfl
  have n0 := h.inv.n0
  have hpk := (hr.peak n0 (m := (pa attr.toNat).cap) (by omega) (by omega : slot ≤ now + 5)).2 (fun v _ _ => (h.inv.ii _ v).2)
  have hpk0 := hr.peak n0 (m := -1) (by omega) (by omega : slot ≤ now + 5)
  have hpkn : 0 ≤ pkN ts[attr.toNat] (ps ts[attr.toNat] slot) (ts[attr.toNat].att.dwell - 1).toNat := by
    rcases Int.lt_or_le (pkN ts[attr.toNat] (ps ts[attr.toNat] slot) (ts[attr.toNat].att.dwell - 1).toNat) 0 with q | q
    · have := hpk0.1 (by omega) slot (by omega) (by omega)
      have := (h.inv.ii attr.toNat slot).1
      omega
    · exact q
  have had := hr.adm slot cls.toNat (by omega) (by omega) (by omega)
  have hen := h.inv.en attr.toNat slot cls.toNat (by omega)
  have hq := hb.2.2.2.2 cls.toNat
  have ef : ∀ n, 1 ≤ n → (mFits now L attr slot cls n = 0 ↔ n ≤ r) := by
    intro n hn
    unfold mFits
    rw [if_pos (chkP_at hc (by omega) (by omega) hn), ← hr.fitM n0 (by omega) (by omega) (by omega)]
    have er : r = roomOf ts[attr.toNat] slot cls.toNat := by show roomOf (tabOf ts attr) slot cls.toNat = _; rw [tabOf_eq ha]
    rw [er]
    unfold fitsF roomOf admOf
    show (if _ - pkN _ (ps ts[attr.toNat] slot) _ < n then (5 : Int) else if _ - ts[attr.toNat].adm.getD (ps ts[attr.toNat] slot % _ * 3 + _) 0 < n then 6 else 0) = 0 ↔ _
    split <;> split <;> (try split) <;> omega
  have er : r = roomOf ts[attr.toNat] slot cls.toNat := by show roomOf (tabOf ts attr) slot cls.toNat = _; rw [tabOf_eq ha]
  have hr0 : 0 ≤ r ∧ r ≤ 12 := by
    rw [er]
    unfold roomOf
    rw [had]
    have e1 : ts[attr.toNat].att.cap = (pa attr.toNat).cap := by rw [hr.att]
    have e2 : ts[attr.toNat].att.q cls.toNat = (pa attr.toNat).q cls.toNat := by rw [hr.att]
    rw [e1, e2]
    split <;> omega
  refine ⟨hr0.1, hr0.2, fun h0 => (ef r (by omega)).2 (by omega), fun n hn => ?_⟩
  rw [Ne, ef n (by omega)]
  omega
end Go.Proofs.Qxb6500897a
