/-
  A region that draws its order, each operation by itself: it answers one value in every world of a kind J that the prover names, and leaves a world of that kind.
-/
import Derived.Test.Qxb6500896aGreatShMix3
namespace Go.Sh.V
open Go.Sh Go.RowKit
set_option linter.unusedVariables false
set_option linter.unusedSimpArgs false

def qj (J : World → Prop) (X : (Value → World → Prop) → World → Prop) (k : Value → Prop) : Prop :=
  ∃ v, (∀ w, J w → X (fun v' w' => v' = v ∧ J w') w) ∧ k v
def c1 (P : Program) (ops : Array Oper) (J : World → Prop) (s : Nat → Value) (o : Oper) (w0 : World) (k : Value → Prop) : Prop :=
  bif R.soft P o then dog P ops s o (fun v _ => k v) w0 else qj J (dog P ops s o) k
def dC (P : Program) (ops : Array Oper) (J : World → Prop) (w0 : World) : List Nat → ((Nat → Value) → Prop) → (Nat → Value) → Prop
  | [], k, s => k s
  | i :: r, k, s => match ops[i]? with
    | some o => c1 P ops J s o w0 (fun v => dC P ops J w0 r k (putE s o.dst v))
    | none => False
section
variable {P : Program} {ops : Array Oper} {cs : List Nat} {w0 : World} {J : World → Prop} {N : (Nat → Value) → World → Prop}
theorem c1_spec {s : Nat → Value} {o : Oper} {k : Value → Prop} (h : c1 P ops J s o w0 k) :
    ∃ v, (∀ w, J w → dog P ops s o (fun v' w' => v' = v ∧ J w') w) ∧ k v := by
  unfold c1 at h
  cases hs : R.soft P o with
  | true =>
    rw [hs] at h
    simp only [R.soft, Bool.and_eq_true, Bool.not_eq_true'] at hs
    obtain ⟨v, h1, h2⟩ := R.still_dog hs.1 hs.2 w0 k h
    exact ⟨v, fun w hw => dog_mono (fun v' w' ⟨e1, e2⟩ => ⟨e1, by rw [e2]; exact hw⟩) (h1 w), h2⟩
  | false =>
    rw [hs] at h
    exact h
theorem dC_spec (hc : Chk ops cs) : ∀ (l : List Nat) (k : (Nat → Value) → Prop) (s : Nat → Value), (∀ j ∈ l, j ∈ cs) → sortB l = true → dC P ops J w0 l k s →
    ∃ sC, k sC ∧ (∀ t, (∀ j ∈ l, dstOf ops j ≠ some t) → sC t = s t) ∧
      ∀ j ∈ l, ∀ o, ops[j]? = some o → ∃ cv, (∀ d, o.dst = some d → sC d = cv) ∧
        ∀ s', (∀ t ∈ rd ops o, s' t = sC t) → ∀ w, J w → dog P ops s' o (fun v w' => v = cv ∧ J w') w
  | [], k, s, _, _, h => ⟨s, h, fun _ _ => rfl, fun j hj => by cases hj⟩
  | i :: r, k, s, hl, hs, h => by
    simp only [dC] at h
    split at h
    · rename_i o ho
      obtain ⟨v, hv, hk⟩ := c1_spec h
      simp only [sortB, Bool.and_eq_true, List.all_eq_true] at hs
      obtain ⟨sC, h1, h2, h3⟩ := dC_spec hc r k _ (fun j hj => hl j (List.mem_cons_of_mem _ hj)) hs.2 hk
      have hi : i < ops.size := hc.lt i (hl i (List.mem_cons_self ..))
      have hdi : dstOf ops i = o.dst := by simp [dstOf, ho]
      have hri : rdOf ops i = rd ops o := by simp [rdOf, ho]
      have hlt : ∀ j ∈ r, i < j := fun j hj => by simpa [Nat.blt_eq] using hs.1 j hj
      have hrd : ∀ t ∈ rd ops o, sC t = s t := by
        intro t ht
        rw [h2 t (fun j hj hd => by
          have := hc.acyc i hi j (hc.rdw i hi j (hl j (List.mem_cons_of_mem _ hj)) t hd (by rw [hri]; exact ht))
          have := hlt j hj
          omega)]
        refine putE_ne (fun hd => ?_)
        have := hc.acyc i hi i (hc.rdw i hi i (hl i (List.mem_cons_self ..)) t (by rw [hdi, hd]) (by rw [hri]; exact ht))
        omega
      refine ⟨sC, h1, ?_, ?_⟩
      · intro t ht
        rw [h2 t (fun j hj => ht j (List.mem_cons_of_mem _ hj))]
        exact putE_ne (by rw [← hdi]; exact ht i (List.mem_cons_self ..))
      · intro j hj oj hoj
        rcases List.mem_cons.1 hj with rfl | hj
        · rw [ho] at hoj; cases hoj
          refine ⟨v, ?_, ?_⟩
          · intro d hd
            rw [h2 d (fun j' hj' hd' => by
              have hne : j' ≠ j := by have := hlt j' hj'; omega
              exact hc.dst j hi j' (hl j' (List.mem_cons_of_mem _ hj')) hne d hd' (by rw [hdi, hd]))]
            rw [hd]; exact putE_same
          · intro s' hs' w hw
            rw [dog_congr (s' := s) (fun t ht => by rw [hs' t ht, hrd t ht])]
            exact hv w hw
        · exact h3 j hj oj hoj
    · exact h.elim
theorem main (hc : Chk ops cs) (hal : ∀ i, i < ops.size → i ∈ cs) {sC : Nat → Value}
    (hD : ∀ j ∈ cs, ∀ o, ops[j]? = some o → ∃ cv, (∀ d, o.dst = some d → sC d = cv) ∧
        ∀ s', (∀ t ∈ rd ops o, s' t = sC t) → ∀ w, J w → dog P ops s' o (fun v w' => v = cv ∧ J w') w)
    (hN : ∀ w, J w → N sC w) :
    ∀ (fuel : Nat) (listed : Array Bool) (s : Nat → Value) (w : World), listed.size = ops.size →
      (∀ t, (∀ j ∈ cs, listed.getD j true = false → dstOf ops j ≠ some t) → s t = sC t) → J w → cnt listed ops.size ≤ fuel → dAny P ops N fuel listed s w := by
  intro fuel
  have done : ∀ (listed : Array Bool) (s : Nat → Value) (w : World), (∀ t, (∀ j ∈ cs, listed.getD j true = false → dstOf ops j ≠ some t) → s t = sC t) → J w → (∀ i, i < ops.size → listed.getD i true = true) → N s w := by
    intro listed s w hs hw hall
    have e : s = sC := by
      funext t
      exact hs t (fun j hj hf => by rw [hall j (hc.lt j hj)] at hf; cases hf)
    rw [e]; exact hN w hw
  induction fuel with
  | zero =>
    intro listed s w sz hs hw hcnt
    have hall := cnt_zero listed ops.size (Nat.le_zero.1 hcnt)
    exact ⟨rdy_all sz hc.acyc hall, done listed s w hs hw hall⟩
  | succ fuel ih =>
    intro listed s w sz hs hw hcnt
    refine ⟨fun h0 => done listed s w hs hw (rdy_nil sz hc.acyc h0), fun i hi o ho => ?_⟩
    obtain ⟨hin, hfi, hpre⟩ := (mem_rdy sz hc.acyc).1 hi
    have hdi : dstOf ops i = o.dst := by simp [dstOf, ho]
    have hri : rdOf ops i = rd ops o := by simp [rdOf, ho]
    have hcount : cnt (listed.setIfInBounds i true) ops.size ≤ fuel := by
      have := cnt_set listed i hfi ops.size
      have e : Nat.blt i ops.size = true := by rw [Nat.blt_eq]; exact hin
      rw [e] at this
      simp at *
      omega
    have hcs := hal i hin
    obtain ⟨cv, hcv, hD'⟩ := hD i hcs o ho
    have hread : ∀ t ∈ rd ops o, s t = sC t := by
      intro t ht
      refine hs t (fun j hj hf hd => ?_)
      have := hpre j (hc.rdw i hin j hj t hd (by rw [hri]; exact ht))
      rw [hf] at this; cases this
    refine dog_mono ?_ (hD' s hread w hw)
    rintro v w' ⟨rfl, hw'⟩
    refine ih _ _ _ (by rw [Array.size_setIfInBounds]; exact sz) ?_ hw' hcount
    intro t ht
    by_cases hd : o.dst = some t
    · rw [hd, putE_same, ← hcv t hd]
    · rw [putE_ne hd]
      refine hs t (fun j hj hf hdj => ?_)
      by_cases hji : j = i
      · subst hji; rw [hdi] at hdj; exact hd hdj
      · refine ht j hj ?_ hdj
        rw [getD_set, hf]
        have : Nat.beq j i = false := by rw [← Bool.not_eq_true, Nat.beq_eq]; exact hji
        rw [this]; rfl
theorem dAny_V {s : Nat → Value} {w : World} (hJ : J w) (hchk : chk ops cs = true) (hal : (List.range ops.size).all (fun i => memB i cs) = true)
    (h : dC P ops J w0 cs (fun s' => ∀ w', J w' → N s' w') s) : dAny P ops N ops.size (Array.replicate ops.size false) s w := by
  have hc := chk_spec hchk
  obtain ⟨sC, h1, h2, h3⟩ := dC_spec hc cs _ s (fun j hj => hj) hc.sorted h
  have hrep : ∀ i, i < ops.size → (Array.replicate ops.size false).getD i true = false := fun i hi => by
    simp [Array.getD_eq_getD_getElem?, hi]
  refine main hc (fun i hi => ?_) h3 h1 ops.size _ s w (by simp) ?_ hJ (cnt_le _ _)
  · rw [List.all_eq_true] at hal
    exact memB_iff.1 (hal i (List.mem_range.2 hi))
  · intro t ht
    refine (h2 t (fun j hj => ?_)).symm
    exact ht j hj (hrep j (hc.lt j hj))
end
theorem tr_drawV {P : Program} {ops : Array Oper} {cs : List Nat} {N N' : (Nat → Value) → World → Prop} {s : Nat → Value} {w : World} {p : (World → Prop) → Prop} {q : Prop} (hchk : chk ops cs = true) (hal : (List.range ops.size).all (fun i => memB i cs) = true)
    (hN : ∀ s w, N s w → Tr (N' s w))
    (e : (fun J => dC P ops J (drw w) cs (fun s' => ∀ w', J w' → N s' w') s) = p)
    (d : q = dAny P ops N' ops.size (Array.replicate ops.size false) s (drw w)) (h : ∃ J : World → Prop, J (drw w) ∧ p J) : Tr q := by
  obtain ⟨J, hJ, h⟩ := h
  subst e
  exact ⟨d ▸ dAny_mono (fun s w h => (hN s w h).out) _ _ _ _ (dAny_V hJ hchk hal h)⟩
end Go.Sh.V
