import Derived.Test.Qxb6500896aGreatM9
namespace Go.Proofs.Qxb6500896aGreat
open Go.Sh Go.RowKit
set_option linter.unusedVariables false
set_option linter.unusedSimpArgs false

/-! ### a request, read number by number or all numbers first -/
def nt (l : List Int) (i : Nat) : Int := (l[i]?).getD 0
theorem nt_at {l : List Int} {i : Nat} (h : i < l.length) : nt l i = l[i] := by unfold nt; rw [List.getElem?_eq_getElem h]; rfl
/-- the request of kind b with these numbers -/
def mOp (b : Int) (fl : List Int) : Option Rq :=
  if b = 1 ∨ b = 22 then (if lsted fl 2 = true then some ⟨b, 0, 0, 0, nt fl 0, nt fl 1, 0, prs (fl.drop 3)⟩ else none)
  else if b = 5 then (if lsted fl 1 = true then some ⟨b, nt fl 0, 0, 0, 0, 0, 0, prs (fl.drop 2)⟩ else none)
  else if b = 6 then (if fl.length = 3 then some ⟨b, 0, nt fl 0, 0, nt fl 1, nt fl 2, 0, []⟩ else none)
  else if b ∈ dIds then (if fl.length = 1 then some ⟨b, nt fl 0, 0, 0, 0, 0, 0, []⟩ else none)
  else if b = 17 then (if fl.length = 2 then some ⟨b, nt fl 0, 0, 0, 0, 0, nt fl 1, []⟩ else none)
  else if b = 18 then (if fl.length = 2 then some ⟨b, 0, nt fl 0, nt fl 1, 0, 0, 0, []⟩ else none)
  else if b = 19 then (if fl.length = 1 then some ⟨b, 0, nt fl 0, 0, 0, 0, 0, []⟩ else none)
  else if b = 21 then (if fl.length = 4 then some ⟨b, 0, nt fl 0, nt fl 3, nt fl 1, nt fl 2, 0, []⟩ else none)
  else if b = 9 ∨ b = 20 ∨ b = 23 then (if fl.length = 0 then some ⟨b, 0, 0, 0, 0, 0, 0, []⟩ else none)
  else none
def mRead (bs : List Int) : Option Rq := match bs with
  | [] => none
  | b :: r => (nmL r).bind (mOp b)
def St (s : RS) (fl : List Int) : Prop := s.2 = false ∧ nmL s.1 = some fl
section
variable {s : RS} {fl : List Int} {x : Int} {n : Nat}
theorem scan_nil : (scan []).2.2 = 1 := rfl
theorem St.num (h : St s (x :: fl)) : ((((rNum s).1 : Nat) : Int) = x ∧ St (rNum s).2 fl) := by
  obtain ⟨h1, h2⟩ := h
  have hne : s.1 ≠ [] := fun e => by rw [e, nmL_nil] at h2; cases h2
  rw [nmL_cons hne] at h2
  split at h2
  · rename_i hs
    obtain ⟨y, hy, e⟩ := Option.map_eq_some_iff.1 h2
    injection e with e1 e2
    rw [rNum_eq]
    rw [if_pos hs]
    exact ⟨e1, h1, by rw [← e2]; exact hy⟩
  · cases h2
theorem St.of (h : St (rNum s).2 fl) : St s ((((rNum s).1 : Nat) : Int) :: fl) := by
  rw [rNum_eq] at h ⊢
  split at h
  · rename_i hs
    rw [if_pos hs]
    obtain ⟨h1, h2⟩ := h
    have hne : s.1 ≠ [] := fun e => by rw [e, scan_nil] at hs; cases hs
    refine ⟨h1, ?_⟩
    rw [nmL_cons hne, if_pos hs]
    replace h2 : nmL (s.1.drop (scan s.1).2.1) = some fl := h2
    rw [h2]
    rfl
  · obtain ⟨h1, _⟩ := h
    cases h1
theorem St.done : rDone s = true ↔ St s [] := by
  unfold rDone St
  rw [Bool.and_eq_true, Bool.not_eq_true']
  refine and_congr_right fun _ => ?_
  rw [List.isEmpty_iff]
  constructor
  · intro h; rw [h]; rfl
  · intro h
    refine Classical.byContradiction fun hne => ?_
    rw [nmL_cons hne] at h
    split at h
    · obtain ⟨y, hy, e⟩ := Option.map_eq_some_iff.1 h
      cases e
    · cases h
theorem St.legsN : ∀ {n : Nat} {s : RS} {fl : List Int}, St s fl → fl.length = 2 * n → (rLegsN n s).1 = prs fl ∧ St (rLegsN n s).2 []
  | 0, s, fl, h, hl => by
    have : fl = [] := List.length_eq_zero_iff.1 (by omega)
    subst this
    exact ⟨rfl, h⟩
  | n + 1, s, a :: b :: r, h, hl => by
    obtain ⟨e1, h1⟩ := h.num
    obtain ⟨e2, h2⟩ := h1.num
    obtain ⟨e3, h3⟩ := h2.legsN (n := n) (by simp only [List.length_cons] at hl; omega)
    rw [rLegsN]
    simp only
    rw [e1, e2, e3]
    exact ⟨rfl, h3⟩
  | n + 1, s, [], h, hl => by simp at hl
  | n + 1, s, [a], h, hl => by simp at hl; omega
theorem St.ofN : ∀ {n : Nat} {s : RS}, St (rLegsN n s).2 [] → ∃ fl, St s fl ∧ fl.length = 2 * n
  | 0, s, h => ⟨[], h, rfl⟩
  | n + 1, s, h => by
    rw [rLegsN] at h
    obtain ⟨fl, h1, h2⟩ := St.ofN (n := n) h
    exact ⟨_, h1.of.of, by simp only [List.length_cons]; omega⟩
theorem St.legs {c : Int} (h : St s (c :: fl)) (hc : c ≤ 8) (hl : ((fl.length : Nat) : Int) = 2 * c) : (rLegs 8 s).1 = prs fl ∧ St (rLegs 8 s).2 [] := by
  obtain ⟨e1, h1⟩ := h.num
  have hu : rUp 8 s = rNum s := by unfold rUp; rw [if_neg (by omega)]
  unfold rLegs
  rw [hu]
  by_cases h0 : (rNum s).1 = 0
  · rw [if_pos (.inr h0)]
    have : fl = [] := List.length_eq_zero_iff.1 (by omega)
    subst this
    exact ⟨rfl, h1⟩
  · rw [if_neg (by rintro (q | q)
                   · rw [h1.1] at q; cases q
                   · exact h0 q)]
    exact h1.legsN (by omega)
theorem St.ofL (h : St (rLegs 8 s).2 []) : ∃ c fl, St s (c :: fl) ∧ c ≤ 8 ∧ ((fl.length : Nat) : Int) = 2 * c := by
  unfold rLegs at h
  by_cases h8 : 8 < (rNum s).1
  · have hu : rUp 8 s = (0, [], true) := by unfold rUp; rw [if_pos h8]
    rw [hu, if_pos (.inl rfl)] at h
    cases h.1
  · have hu : rUp 8 s = rNum s := by unfold rUp; rw [if_neg h8]
    rw [hu] at h
    split at h
    · rename_i hq
      rcases hq with q | q
      · exact absurd h.1 (by show ¬ (rNum s).2.2 = false; rw [q]; decide)
      · exact ⟨_, [], St.of h, by omega, by rw [q]; rfl⟩
    · obtain ⟨fl, h1, h2⟩ := St.ofN h
      exact ⟨_, fl, h1.of, by omega, by omega⟩
theorem decE_of {r : Rq × RS} (h : St r.2 []) : decE r = (r.1, 0) := by unfold decE; rw [if_pos (St.done.2 h)]
theorem lsted_iff {k : Nat} : lsted fl k = true ↔ ∃ c, fl[k]? = some c ∧ c ≤ 8 ∧ ((fl.length : Nat) : Int) = ((k : Nat) : Int) + 1 + 2 * c := by
  unfold lsted
  cases h : fl[k]? with
  | none => simp
  | some c => simp [Bool.and_eq_true]
theorem St.nm (h : St s fl) : nmL s.1 = some fl := h.2
theorem St.mk {r : List Int} (h : nmL r = some fl) : St (r, false) fl := ⟨rfl, h⟩
theorem nst {fl : List Int} (h : St ([], true) fl) : False := by cases h.1
theorem mOp_0 {b : Int}  (hb : b = 1 ∨ b = 22) : mOp b fl = (if lsted fl 2 = true then some ⟨b, 0, 0, 0, nt fl 0, nt fl 1, 0, prs (fl.drop 3)⟩ else none) := by
  unfold mOp; rw [if_pos hb]
theorem decB_0 {b : Int}  (hb : b = 1 ∨ b = 22) : decB b s = (⟨b, 0, 0, 0, ((rNum s).1 : Nat), ((rNum (rNum s).2).1 : Nat), 0, (rLegs 8 (rNum (rNum s).2).2).1⟩, (rLegs 8 (rNum (rNum s).2).2).2) := by
  unfold decB; rw [if_pos hb]
theorem mOp_1 {b : Int} (h0 : ¬ (b = 1 ∨ b = 22)) (hb : b = 5) : mOp b fl = (if lsted fl 1 = true then some ⟨b, nt fl 0, 0, 0, 0, 0, 0, prs (fl.drop 2)⟩ else none) := by
  unfold mOp; rw [if_neg h0, if_pos hb]
theorem decB_1 {b : Int} (h0 : ¬ (b = 1 ∨ b = 22)) (hb : b = 5) : decB b s = (⟨b, ((rNum s).1 : Nat), 0, 0, 0, 0, 0, (rLegs 8 (rNum s).2).1⟩, (rLegs 8 (rNum s).2).2) := by
  unfold decB; rw [if_neg h0, if_pos hb]
theorem mOp_2 {b : Int} (h0 : ¬ (b = 1 ∨ b = 22)) (h1 : ¬ (b = 5)) (hb : b = 6) : mOp b fl = (if fl.length = 3 then some ⟨b, 0, nt fl 0, 0, nt fl 1, nt fl 2, 0, []⟩ else none) := by
  unfold mOp; rw [if_neg h0, if_neg h1, if_pos hb]
theorem decB_2 {b : Int} (h0 : ¬ (b = 1 ∨ b = 22)) (h1 : ¬ (b = 5)) (hb : b = 6) : decB b s = (⟨b, 0, ((rNum s).1 : Nat), 0, ((rNum (rNum s).2).1 : Nat), ((rNum (rNum (rNum s).2).2).1 : Nat), 0, []⟩, (rNum (rNum (rNum s).2).2).2) := by
  unfold decB; rw [if_neg h0, if_neg h1, if_pos hb]
theorem mOp_3 {b : Int} (h0 : ¬ (b = 1 ∨ b = 22)) (h1 : ¬ (b = 5)) (h2 : ¬ (b = 6)) (hb : b ∈ dIds) : mOp b fl = (if fl.length = 1 then some ⟨b, nt fl 0, 0, 0, 0, 0, 0, []⟩ else none) := by
  unfold mOp; rw [if_neg h0, if_neg h1, if_neg h2, if_pos hb]
theorem decB_3 {b : Int} (h0 : ¬ (b = 1 ∨ b = 22)) (h1 : ¬ (b = 5)) (h2 : ¬ (b = 6)) (hb : b ∈ dIds) : decB b s = (⟨b, ((rNum s).1 : Nat), 0, 0, 0, 0, 0, []⟩, (rNum s).2) := by
  unfold decB; rw [if_neg h0, if_neg h1, if_neg h2, if_pos hb]
theorem mOp_4 {b : Int} (h0 : ¬ (b = 1 ∨ b = 22)) (h1 : ¬ (b = 5)) (h2 : ¬ (b = 6)) (h3 : ¬ (b ∈ dIds)) (hb : b = 17) : mOp b fl = (if fl.length = 2 then some ⟨b, nt fl 0, 0, 0, 0, 0, nt fl 1, []⟩ else none) := by
  unfold mOp; rw [if_neg h0, if_neg h1, if_neg h2, if_neg h3, if_pos hb]
theorem decB_4 {b : Int} (h0 : ¬ (b = 1 ∨ b = 22)) (h1 : ¬ (b = 5)) (h2 : ¬ (b = 6)) (h3 : ¬ (b ∈ dIds)) (hb : b = 17) : decB b s = (⟨b, ((rNum s).1 : Nat), 0, 0, 0, 0, ((rNum (rNum s).2).1 : Nat), []⟩, (rNum (rNum s).2).2) := by
  unfold decB; rw [if_neg h0, if_neg h1, if_neg h2, if_neg h3, if_pos hb]
theorem mOp_5 {b : Int} (h0 : ¬ (b = 1 ∨ b = 22)) (h1 : ¬ (b = 5)) (h2 : ¬ (b = 6)) (h3 : ¬ (b ∈ dIds)) (h4 : ¬ (b = 17)) (hb : b = 18) : mOp b fl = (if fl.length = 2 then some ⟨b, 0, nt fl 0, nt fl 1, 0, 0, 0, []⟩ else none) := by
  unfold mOp; rw [if_neg h0, if_neg h1, if_neg h2, if_neg h3, if_neg h4, if_pos hb]
theorem decB_5 {b : Int} (h0 : ¬ (b = 1 ∨ b = 22)) (h1 : ¬ (b = 5)) (h2 : ¬ (b = 6)) (h3 : ¬ (b ∈ dIds)) (h4 : ¬ (b = 17)) (hb : b = 18) : decB b s = (⟨b, 0, ((rNum s).1 : Nat), ((rNum (rNum s).2).1 : Nat), 0, 0, 0, []⟩, (rNum (rNum s).2).2) := by
  unfold decB; rw [if_neg h0, if_neg h1, if_neg h2, if_neg h3, if_neg h4, if_pos hb]
theorem mOp_6 {b : Int} (h0 : ¬ (b = 1 ∨ b = 22)) (h1 : ¬ (b = 5)) (h2 : ¬ (b = 6)) (h3 : ¬ (b ∈ dIds)) (h4 : ¬ (b = 17)) (h5 : ¬ (b = 18)) (hb : b = 19) : mOp b fl = (if fl.length = 1 then some ⟨b, 0, nt fl 0, 0, 0, 0, 0, []⟩ else none) := by
  unfold mOp; rw [if_neg h0, if_neg h1, if_neg h2, if_neg h3, if_neg h4, if_neg h5, if_pos hb]
theorem decB_6 {b : Int} (h0 : ¬ (b = 1 ∨ b = 22)) (h1 : ¬ (b = 5)) (h2 : ¬ (b = 6)) (h3 : ¬ (b ∈ dIds)) (h4 : ¬ (b = 17)) (h5 : ¬ (b = 18)) (hb : b = 19) : decB b s = (⟨b, 0, ((rNum s).1 : Nat), 0, 0, 0, 0, []⟩, (rNum s).2) := by
  unfold decB; rw [if_neg h0, if_neg h1, if_neg h2, if_neg h3, if_neg h4, if_neg h5, if_pos hb]
theorem mOp_7 {b : Int} (h0 : ¬ (b = 1 ∨ b = 22)) (h1 : ¬ (b = 5)) (h2 : ¬ (b = 6)) (h3 : ¬ (b ∈ dIds)) (h4 : ¬ (b = 17)) (h5 : ¬ (b = 18)) (h6 : ¬ (b = 19)) (hb : b = 21) : mOp b fl = (if fl.length = 4 then some ⟨b, 0, nt fl 0, nt fl 3, nt fl 1, nt fl 2, 0, []⟩ else none) := by
  unfold mOp; rw [if_neg h0, if_neg h1, if_neg h2, if_neg h3, if_neg h4, if_neg h5, if_neg h6, if_pos hb]
theorem decB_7 {b : Int} (h0 : ¬ (b = 1 ∨ b = 22)) (h1 : ¬ (b = 5)) (h2 : ¬ (b = 6)) (h3 : ¬ (b ∈ dIds)) (h4 : ¬ (b = 17)) (h5 : ¬ (b = 18)) (h6 : ¬ (b = 19)) (hb : b = 21) : decB b s = (⟨b, 0, ((rNum s).1 : Nat), ((rNum (rNum (rNum (rNum s).2).2).2).1 : Nat), ((rNum (rNum s).2).1 : Nat), ((rNum (rNum (rNum s).2).2).1 : Nat), 0, []⟩, (rNum (rNum (rNum (rNum s).2).2).2).2) := by
  unfold decB; rw [if_neg h0, if_neg h1, if_neg h2, if_neg h3, if_neg h4, if_neg h5, if_neg h6, if_pos hb]
theorem mOp_8 {b : Int} (h0 : ¬ (b = 1 ∨ b = 22)) (h1 : ¬ (b = 5)) (h2 : ¬ (b = 6)) (h3 : ¬ (b ∈ dIds)) (h4 : ¬ (b = 17)) (h5 : ¬ (b = 18)) (h6 : ¬ (b = 19)) (h7 : ¬ (b = 21)) (hb : b = 9 ∨ b = 20 ∨ b = 23) : mOp b fl = (if fl.length = 0 then some ⟨b, 0, 0, 0, 0, 0, 0, []⟩ else none) := by
  unfold mOp; rw [if_neg h0, if_neg h1, if_neg h2, if_neg h3, if_neg h4, if_neg h5, if_neg h6, if_neg h7, if_pos hb]
theorem decB_8 {b : Int} (h0 : ¬ (b = 1 ∨ b = 22)) (h1 : ¬ (b = 5)) (h2 : ¬ (b = 6)) (h3 : ¬ (b ∈ dIds)) (h4 : ¬ (b = 17)) (h5 : ¬ (b = 18)) (h6 : ¬ (b = 19)) (h7 : ¬ (b = 21)) (hb : b = 9 ∨ b = 20 ∨ b = 23) : decB b s = (⟨b, 0, 0, 0, 0, 0, 0, []⟩, s) := by
  unfold decB; rw [if_neg h0, if_neg h1, if_neg h2, if_neg h3, if_neg h4, if_neg h5, if_neg h6, if_neg h7, if_pos hb]
set_option maxHeartbeats 1000000 in
/-- forward -/
theorem dec_fwd {b : Int} {q : Rq} (h : St s fl) (hq : mOp b fl = some q) : decE (decB b s) = (q, 0) := by
  by_cases h0 : b = 1 ∨ b = 22
  · rw [mOp_0  h0] at hq
    rw [decB_0  h0]
    by_cases hl : lsted fl 2 = true
    · rw [if_pos hl] at hq
      have hq := Option.some.inj hq
      obtain ⟨c, k1, k2, k3⟩ := lsted_iff.1 hl
      match fl, h, k1, k3, hq with
      | x :: y :: z :: r, h, k1, k3, hq =>
        have k1 : z = c := Option.some.inj k1
        subst k1
        obtain ⟨e1, g1⟩ := h.num
        obtain ⟨e2, g2⟩ := g1.num
        obtain ⟨e3, g3⟩ := g2.legs k2 (by simp only [List.length_cons] at k3; omega)
        rw [decE_of (r := (_, _)) g3, ← hq]
        simp only [e1, e2, e3]
        rfl
      | [], _, k1, _, _ => cases k1
      | [x], _, k1, _, _ => cases k1
      | [x, y], _, k1, _, _ => cases k1
    · rw [if_neg hl] at hq; cases hq
  by_cases h1 : b = 5
  · rw [mOp_1 h0 h1] at hq
    rw [decB_1 h0 h1]
    clear h0
    by_cases hl : lsted fl 1 = true
    · rw [if_pos hl] at hq
      have hq := Option.some.inj hq
      obtain ⟨c, k1, k2, k3⟩ := lsted_iff.1 hl
      match fl, h, k1, k3, hq with
      | x :: z :: r, h, k1, k3, hq =>
        have k1 : z = c := Option.some.inj k1
        subst k1
        obtain ⟨e1, g1⟩ := h.num
        obtain ⟨e3, g3⟩ := g1.legs k2 (by simp only [List.length_cons] at k3; omega)
        rw [decE_of (r := (_, _)) g3, ← hq]
        simp only [e1, e3]
        rfl
      | [], _, k1, _, _ => cases k1
      | [x], _, k1, _, _ => cases k1
    · rw [if_neg hl] at hq; cases hq
  by_cases h2 : b = 6
  · rw [mOp_2 h0 h1 h2] at hq
    rw [decB_2 h0 h1 h2]
    clear h0 h1
    by_cases hl : fl.length = 3
    · rw [if_pos hl] at hq
      have hq := Option.some.inj hq
      match fl, h, hl, hq with
      | [x, y, z], h, _, hq =>
        obtain ⟨e1, g1⟩ := h.num
        obtain ⟨e2, g2⟩ := g1.num
        obtain ⟨e3, g3⟩ := g2.num
        rw [decE_of (r := (_, _)) g3, ← hq]
        simp only [e1, e2, e3]
        rfl
    · rw [if_neg hl] at hq; cases hq
  by_cases h3 : b ∈ dIds
  · rw [mOp_3 h0 h1 h2 h3] at hq
    rw [decB_3 h0 h1 h2 h3]
    clear h0 h1 h2
    by_cases hl : fl.length = 1
    · rw [if_pos hl] at hq
      have hq := Option.some.inj hq
      match fl, h, hl, hq with
      | [x], h, _, hq =>
        obtain ⟨e1, g1⟩ := h.num
        rw [decE_of (r := (_, _)) g1, ← hq]
        simp only [e1]
        rfl
    · rw [if_neg hl] at hq; cases hq
  by_cases h4 : b = 17
  · rw [mOp_4 h0 h1 h2 h3 h4] at hq
    rw [decB_4 h0 h1 h2 h3 h4]
    clear h0 h1 h2 h3
    by_cases hl : fl.length = 2
    · rw [if_pos hl] at hq
      have hq := Option.some.inj hq
      match fl, h, hl, hq with
      | [x, y], h, _, hq =>
        obtain ⟨e1, g1⟩ := h.num
        obtain ⟨e2, g2⟩ := g1.num
        rw [decE_of (r := (_, _)) g2, ← hq]
        simp only [e1, e2]
        rfl
    · rw [if_neg hl] at hq; cases hq
  by_cases h5 : b = 18
  · rw [mOp_5 h0 h1 h2 h3 h4 h5] at hq
    rw [decB_5 h0 h1 h2 h3 h4 h5]
    clear h0 h1 h2 h3 h4
    by_cases hl : fl.length = 2
    · rw [if_pos hl] at hq
      have hq := Option.some.inj hq
      match fl, h, hl, hq with
      | [x, y], h, _, hq =>
        obtain ⟨e1, g1⟩ := h.num
        obtain ⟨e2, g2⟩ := g1.num
        rw [decE_of (r := (_, _)) g2, ← hq]
        simp only [e1, e2]
        rfl
    · rw [if_neg hl] at hq; cases hq
  by_cases h6 : b = 19
  · rw [mOp_6 h0 h1 h2 h3 h4 h5 h6] at hq
    rw [decB_6 h0 h1 h2 h3 h4 h5 h6]
    clear h0 h1 h2 h3 h4 h5
    by_cases hl : fl.length = 1
    · rw [if_pos hl] at hq
      have hq := Option.some.inj hq
      match fl, h, hl, hq with
      | [x], h, _, hq =>
        obtain ⟨e1, g1⟩ := h.num
        rw [decE_of (r := (_, _)) g1, ← hq]
        simp only [e1]
        rfl
    · rw [if_neg hl] at hq; cases hq
  by_cases h7 : b = 21
  · rw [mOp_7 h0 h1 h2 h3 h4 h5 h6 h7] at hq
    rw [decB_7 h0 h1 h2 h3 h4 h5 h6 h7]
    clear h0 h1 h2 h3 h4 h5 h6
    by_cases hl : fl.length = 4
    · rw [if_pos hl] at hq
      have hq := Option.some.inj hq
      match fl, h, hl, hq with
      | [x, y, z, t], h, _, hq =>
        obtain ⟨e1, g1⟩ := h.num
        obtain ⟨e2, g2⟩ := g1.num
        obtain ⟨e3, g3⟩ := g2.num
        obtain ⟨e4, g4⟩ := g3.num
        rw [decE_of (r := (_, _)) g4, ← hq]
        simp only [e1, e2, e3, e4]
        rfl
    · rw [if_neg hl] at hq; cases hq
  by_cases h8 : b = 9 ∨ b = 20 ∨ b = 23
  · rw [mOp_8 h0 h1 h2 h3 h4 h5 h6 h7 h8] at hq
    rw [decB_8 h0 h1 h2 h3 h4 h5 h6 h7 h8]
    clear h0 h1 h2 h3 h4 h5 h6 h7
    by_cases hl : fl.length = 0
    · rw [if_pos hl] at hq
      have hq := Option.some.inj hq
      match fl, h, hl, hq with
      | [], h, _, hq =>
        rw [decE_of (r := (_, _)) h, ← hq]
    · rw [if_neg hl] at hq; cases hq
  unfold mOp at hq
  rw [if_neg h0, if_neg h1, if_neg h2, if_neg h3, if_neg h4, if_neg h5, if_neg h6, if_neg h7, if_neg h8] at hq
  cases hq
set_option maxHeartbeats 1000000 in
/-- and back -/
theorem dec_bwd {b : Int} (h : St (decB b s).2 []) : ∃ fl, St s fl ∧ (mOp b fl).isSome = true := by
  by_cases h0 : b = 1 ∨ b = 22
  · rw [decB_0  h0] at h
    obtain ⟨c, fl, k1, k2, k3⟩ := St.ofL h
    refine ⟨_, k1.of.of, ?_⟩
    rw [mOp_0  h0, if_pos (lsted_iff.2 ⟨c, rfl, k2, by simp only [List.length_cons]; omega⟩)]
    rfl
  by_cases h1 : b = 5
  · rw [decB_1 h0 h1] at h
    obtain ⟨c, fl, k1, k2, k3⟩ := St.ofL h
    refine ⟨_, k1.of, ?_⟩
    rw [mOp_1 h0 h1, if_pos (lsted_iff.2 ⟨c, rfl, k2, by simp only [List.length_cons]; omega⟩)]
    rfl
  by_cases h2 : b = 6
  · rw [decB_2 h0 h1 h2] at h
    refine ⟨_, (St.of (St.of (St.of h))), ?_⟩
    rw [mOp_2 h0 h1 h2]
    rfl
  by_cases h3 : b ∈ dIds
  · rw [decB_3 h0 h1 h2 h3] at h
    refine ⟨_, (St.of h), ?_⟩
    rw [mOp_3 h0 h1 h2 h3]
    rfl
  by_cases h4 : b = 17
  · rw [decB_4 h0 h1 h2 h3 h4] at h
    refine ⟨_, (St.of (St.of h)), ?_⟩
    rw [mOp_4 h0 h1 h2 h3 h4]
    rfl
  by_cases h5 : b = 18
  · rw [decB_5 h0 h1 h2 h3 h4 h5] at h
    refine ⟨_, (St.of (St.of h)), ?_⟩
    rw [mOp_5 h0 h1 h2 h3 h4 h5]
    rfl
  by_cases h6 : b = 19
  · rw [decB_6 h0 h1 h2 h3 h4 h5 h6] at h
    refine ⟨_, (St.of h), ?_⟩
    rw [mOp_6 h0 h1 h2 h3 h4 h5 h6]
    rfl
  by_cases h7 : b = 21
  · rw [decB_7 h0 h1 h2 h3 h4 h5 h6 h7] at h
    refine ⟨_, (St.of (St.of (St.of (St.of h)))), ?_⟩
    rw [mOp_7 h0 h1 h2 h3 h4 h5 h6 h7]
    rfl
  by_cases h8 : b = 9 ∨ b = 20 ∨ b = 23
  · rw [decB_8 h0 h1 h2 h3 h4 h5 h6 h7 h8] at h
    refine ⟨_, h, ?_⟩
    rw [mOp_8 h0 h1 h2 h3 h4 h5 h6 h7 h8]
    rfl
  exfalso
  unfold decB at h
  rw [if_neg h0, if_neg h1, if_neg h2, if_neg h3, if_neg h4, if_neg h5, if_neg h6, if_neg h7, if_neg h8] at h
  exact nst h
/-- what the model reads is what the engine reads -/
theorem mRead_some {bs : List Int} {q : Rq} (h : mRead bs = some q) : dec bs = (q, 0) := by
  cases bs with
  | nil => cases h
  | cons b r =>
    unfold mRead at h
    obtain ⟨fl, h1, h2⟩ := Option.bind_eq_some_iff.1 h
    exact dec_fwd (s := (r, false)) (St.mk h1) h2
theorem mRead_none {bs : List Int} (h : mRead bs = none) : (dec bs).2 = 1 := by
  cases bs with
  | nil => rfl
  | cons b r =>
    have key : ¬ rDone (decB b (r, false)).2 = true := fun hd => by
      obtain ⟨fl, h1, h2⟩ := dec_bwd (St.done.1 hd)
      replace h : (nmL r).bind (mOp b) = none := h
      rw [show nmL r = some fl from St.nm h1] at h
      rw [show (some fl).bind (mOp b) = mOp b fl from rfl] at h
      rw [h] at h2
      cases h2
    show (decE (decB b (r, false))).2 = 1
    unfold decE
    rw [if_neg key]
end
end Go.Proofs.Qxb6500896aGreat
