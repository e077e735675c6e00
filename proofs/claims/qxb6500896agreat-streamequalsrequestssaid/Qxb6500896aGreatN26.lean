import Derived.Test.Qxb6500896aGreatD1
namespace Go.Proofs.Qxb6500896aGreat
open Go.Sh Go.RowKit
set_option linter.unusedVariables false
set_option linter.unusedSimpArgs false

/-! ### the first slot for a party, by a sliding run and by trying each -/
/-- a party of one leg fits -/
abbrev fP (rs : List Rec) (a : Nat) (cl sz s : Int) : Prop := fits park rs cl sz [⟨(a : Nat), s⟩] 0 = 0
def fstP (rs : List Rec) (a : Nat) (cl sz : Int) : Nat → Int → Option Int
  | 0, _ => none
  | n + 1, s => if fP rs a cl sz s then some s else fstP rs a cl sz n (s + 1)
/-- as the model tries -/
def fndM (rs : List Rec) (a : Nat) (cl sz frm : Int) : Nat → Int → Option Int
  | 0, _ => none
  | n + 1, x => if frm ≤ x ∧ fP rs a cl sz x then some x else fndM rs a cl sz frm n (x + 1)
section
variable {rs : List Rec} {a : Nat} {cl sz : Int}
theorem fndM_eq {frm E : Int} : ∀ (n : Nat) (x : Int), x + ((n : Nat) : Int) = E → fndM rs a cl sz frm n x = fstP rs a cl sz (E - (if x < frm then frm else x)).toNat (if x < frm then frm else x)
  | 0, x, h => by
    have : (E - (if x < frm then frm else x)).toNat = 0 := by split <;> omega
    rw [this]; rfl
  | n + 1, x, h => by
    have ih := fndM_eq (frm := frm) (E := E) n (x + 1) (by omega)
    rw [fndM]
    by_cases hx : x < frm
    · rw [if_neg (by omega), ih, if_pos hx]
      by_cases h1 : x + 1 < frm
      · rw [if_pos h1]
      · rw [if_neg h1, show x + 1 = frm by omega]
    · rw [if_neg hx]
      rw [if_neg (by omega), show (E - (x + 1)).toNat = n by omega] at ih
      rw [show (E - x).toNat = n + 1 by omega, fstP, ih]
      by_cases hp : fP rs a cl sz x
      · rw [if_pos hp, if_pos ⟨by omega, hp⟩]
      · rw [if_neg hp, if_neg (fun q => hp q.2)]
theorem fP_iff (ha : a < 3) {s : Int} : fP rs a cl sz s ↔ (∀ k : Nat, ((k : Nat) : Int) < (attOf park (a : Nat)).dw → inside park rs (a : Nat) (s + ((k : Nat) : Int)) 0 + sz ≤ (attOf park (a : Nat)).cap) ∧ entered rs (a : Nat) s cl 0 + sz ≤ attQ (attOf park (a : Nat)) cl := by
  have hd : dwell park (a : Nat) = (attOf park (a : Nat)).dw := by
    match a, ha with
    | 0, _ => rfl
    | 1, _ => rfl
    | 2, _ => rfl
  have h := fits_1 (rs := rs) (n := a) (cls := cl) (slot := s) (sz := sz) hd
  unfold fP
  rw [← decide_eq_true_iff (p := fits park rs cl sz [⟨(a : Nat), s⟩] 0 = 0), h, Bool.and_eq_true, List.all_eq_true, decide_eq_true_iff]
  refine and_congr_left fun _ => ?_
  unfold tkC
  constructor
  · intro q k hk
    exact of_decide_eq_true (q k (List.mem_range.2 (by omega)))
  · intro q k hk
    exact decide_eq_true (q k (by have := List.mem_range.1 hk; omega))
/-- a run up to x -/
structure Run (ok : Int → Prop) (fr run x : Int) : Prop where
  r0 : 0 ≤ run
  r1 : run ≤ x - fr
  all : ∀ y, x - run ≤ y → y < x → ok y
  no : run < x - fr → ¬ ok (x - run - 1)
theorem Run.step {ok : Int → Prop} [DecidablePred ok] {fr run x : Int} (h : Run ok fr run x) (hx : fr ≤ x) : Run ok fr (if ok x then run + 1 else 0) (x + 1) := by
  have h0 := h.r0
  have h1 := h.r1
  by_cases hk : ok x
  · rw [if_pos hk]
    refine ⟨by omega, by omega, fun y y0 y1 => ?_, fun q => ?_⟩
    · by_cases e : y = x
      · rw [e]; exact hk
      · exact h.all y (by omega) (by omega)
    · rw [show x + 1 - (run + 1) - 1 = x - run - 1 by omega]; exact h.no (by omega)
  · rw [if_neg hk]
    refine ⟨by omega, by omega, fun y y0 y1 => by omega, fun q => ?_⟩
    rw [show x + 1 - 0 - 1 = x by omega]; exact hk
theorem Run.win {ok : Int → Prop} {fr run x d : Int} (h : Run ok fr run (x + 1)) (hs : fr ≤ x - d + 1) : (∀ k : Nat, ((k : Nat) : Int) < d → ok (x - d + 1 + ((k : Nat) : Int))) ↔ d ≤ run := by
  constructor
  · intro q
    refine Int.not_lt.1 fun hlt => ?_
    have h0 := h.r0
    have n := h.no (by omega)
    have := q (d - 1 - run).toNat (by omega)
    rw [show x - d + 1 + (((d - 1 - run).toNat : Nat) : Int) = x + 1 - run - 1 by omega] at this
    exact n this
  · intro q k hk
    exact h.all _ (by omega) (by omega)
theorem fndF_A (ha : a < 3) {fr : Int} : ∀ (n : Nat) (run x : Int), Run (fun y => inside park rs (a : Nat) y 0 + sz ≤ (attOf park (a : Nat)).cap) fr run x → fr ≤ x → fr ≤ x - (attOf park (a : Nat)).dw + 1 →
    fndF park rs (a : Nat) cl sz n run x = fstP rs a cl sz n (x - (attOf park (a : Nat)).dw + 1)
  | 0, run, x, h, h1, h2 => rfl
  | n + 1, run, x, h, h1, h2 => by
    have st := h.step h1
    have ih := fndF_A ha n _ (x + 1) st (by omega) (by omega)
    have wn := st.win (d := (attOf park (a : Nat)).dw) h2
    rw [show x + 1 - (attOf park (a : Nat)).dw + 1 = x - (attOf park (a : Nat)).dw + 1 + 1 by omega] at ih
    rw [fndF, fstP, ih]
    by_cases hr : (if inside park rs (a : Nat) x 0 + sz ≤ (attOf park (a : Nat)).cap then run + 1 else 0) < (attOf park (a : Nat)).dw
    · rw [if_pos hr, if_neg]
      intro q
      have := wn.1 ((fP_iff ha).1 q).1
      omega
    · rw [if_neg hr]
      have w1 := wn.2 (by omega)
      rw [show x - (attOf park (a : Nat)).dw + 1 = x - (attOf park (a : Nat)).dw + 1 from rfl]
      by_cases hq : entered rs (a : Nat) (x - (attOf park (a : Nat)).dw + 1) cl 0 + sz ≤ attQ (attOf park (a : Nat)) cl
      · rw [if_pos hq, if_pos ((fP_iff ha).2 ⟨w1, hq⟩)]
      · rw [if_neg hq, if_neg fun q => hq ((fP_iff ha).1 q).2]
theorem fndF_B (ha : a < 3) {fr : Int} : ∀ (n : Nat) (run x : Int), Run (fun y => inside park rs (a : Nat) y 0 + sz ≤ (attOf park (a : Nat)).cap) fr run x → fr ≤ x → x - (attOf park (a : Nat)).dw + 1 ≤ fr →
    fndF park rs (a : Nat) cl sz n run x = fstP rs a cl sz (((n : Nat) : Int) - (fr - (x - (attOf park (a : Nat)).dw + 1))).toNat fr
  | 0, run, x, h, h1, h2 => by
    rw [show (((0 : Nat) : Int) - (fr - (x - (attOf park (a : Nat)).dw + 1))).toNat = 0 by omega]; rfl
  | n + 1, run, x, h, h1, h2 => by
    by_cases he : x - (attOf park (a : Nat)).dw + 1 = fr
    · rw [fndF_A ha (n + 1) run x h h1 (by omega), he, show (((n + 1 : Nat) : Int) - (fr - fr)).toNat = n + 1 by omega]
    · have st := h.step h1
      have ih := fndF_B ha n _ (x + 1) st (by omega) (by omega)
      have r1 := st.r1
      rw [fndF, if_pos (by omega), ih]
      congr 1
      omega
/-- the engine's search is the model's -/
theorem find_eq (ha : a < 3) {frm now : Int} (hi : ∀ x, 0 ≤ inside park rs (a : Nat) x 0) (he : ∀ x, 0 ≤ entered rs (a : Nat) x cl 0) (hd : 1 ≤ (attOf park (a : Nat)).dw) :
    (if (attOf park (a : Nat)).cap < sz ∨ attQ (attOf park (a : Nat)) cl < sz then none else fndF park rs (a : Nat) cl sz (now + 8 - 1 + (attOf park (a : Nat)).dw - (if frm < now then now else frm)).toNat 0 (if frm < now then now else frm)) = fndM rs a cl sz frm 8 now := by
  rw [fndM_eq (E := now + 8) 8 now (by omega)]
  have efr : (if now < frm then frm else now) = (if frm < now then now else frm) := by split <;> split <;> omega
  rw [efr]
  generalize (if frm < now then now else frm) = fr
  by_cases hbig : (attOf park (a : Nat)).cap < sz ∨ attQ (attOf park (a : Nat)) cl < sz
  · rw [if_pos hbig]
    have : ∀ (n : Nat) (s : Int), fstP rs a cl sz n s = none := fun n => by
      induction n with
      | zero => intro s; rfl
      | succ n ih =>
        intro s
        rw [fstP, if_neg, ih]
        intro q
        obtain ⟨q1, q2⟩ := (fP_iff ha).1 q
        have q3 := q1 0 (by omega)
        have := hi (s + ((0 : Nat) : Int))
        have := he s
        omega
    rw [this]
  · rw [if_neg hbig]
    rw [fndF_B ha (fr := fr) _ 0 fr ⟨by omega, by omega, fun y y0 y1 => by omega, fun q => by omega⟩ (by omega) (by omega)]
    congr 1
    omega
end
end Go.Proofs.Qxb6500896aGreat
