import Derived.Test.Qxb6500896aGreatDoorT11
import Derived.Test.Qxb6500896aGreatDoorN15
import Derived.Test.Qxb6500896aGreatDoorK72
import Derived.Test.Qxb6500896aGreatDoorGv
namespace Go.Proofs.Qxb6500896aGreatDoor
open Go.Sh Go.RowKit
set_option linter.unusedVariables false
set_option linter.unusedSimpArgs false

section
variable {M : Nat → Prop} {W w w' w0 : World} {K : Value → World → Prop} {v lv : Value} {F : Nat → Prop} {xs : List Int} {log : List (List Int)} {j : Nat} {lob : Option Nat} {J : Jr}
/-- one more entry in the log, which lies elsewhere -/
theorem Lg.appA {ev : Value} (hl : Lg M w lob lv log) (hM : ∀ b, M b → b < w.heap.size) (hlen : log.length ≤ 1099511627776) (hev : Ai bC 1 M w ev xs) {sb : Nat} (rs : Row w sb 35 [ev])
    (hK : ∀ w' v' lob', Ext M (fun b => M b ∨ lob' = some b) w w' → Kp (fun b => lob = some b) w w' → (lob' = lob ∨ ∃ b, lob' = some b ∧ w.heap.size ≤ b) → Lg (fun b => M b ∨ lob' = some b) w' lob' v' (log ++ [xs]) → K v' w') :
    apq 35 [nilS] 24 lv (.slice (some ⟨sb, 0, none⟩) 1 1) K w := by
  obtain ⟨evs, h1, h2, h3, h4⟩ := hl
  have hrd : Rds one 1 w (.slice (some ⟨sb, 0, none⟩) 1 1) [ev] := (Ar.row (F := fun _ => True) (xs := [ev]) one_len rs trivial (by simp)).rds one_len
  have hS : ∀ b, lob = some b → b < w.heap.size → M b := fun b e _ => h2 b e
  refine Sl.app3 one_len rfl (fun y hy => ?_) h1 hrd (by simp; omega) (by simp; omega) fun w1 v1 lob1 s1 hk1 ho1 => ?_
  · rw [List.mem_singleton] at hy
    rw [hy]
    show (scal ev && true) = true
    rw [hev.scal]; rfl
  have hx : Ext M (fun b => M b ∨ lob1 = some b) w w1 := Ext.add? hM hk1 (fun m e => by
      rcases ho1 with q | ⟨b, q, hb⟩
      · exact .inl (h2 m (q ▸ e))
      · rw [q] at e; cases e; exact .inr hb) (fun m e => by obtain ⟨l, hr⟩ := s1.row e; exact hr.lt)
  refine hK w1 v1 lob1 hx hk1 ho1 ⟨evs ++ [ev], s1, fun b e => .inr e, by simp [h3], fun i a b => ?_⟩
  rw [List.length_append, List.length_singleton] at a b
  rcases Nat.lt_or_ge i evs.length with q | q
  · rw [List.getElem_append_left q, List.getElem_append_left (by omega)]
    exact (h4 i q (by omega)).ext hx hk1 hS
  · have e1 : i = evs.length := by omega
    subst e1
    have g1 : (evs ++ [ev])[evs.length] = ev := by simp
    have g2 : (log ++ [xs])[evs.length]'(by simp; omega) = xs := by simp [h3]
    rw [g1, g2]
    exact hev.ext hx hk1 hS
/-- a journal that is filled by hand -/
structure Fl (W w : World) (j : Nat) (J : Jr) (i : Nat) : Prop where
  ex : ∃ M lob, Jn M w j lob J ∧ ∀ b, M b → W.heap.size ≤ b
  k : Kp Emp W w
  off : J.off = false
  left : J.left = 0
  safe : J.safe = 0
  by_ : JBy J
  len : ∀ x ∈ J.log, x.length ≤ 65536
  n : (if J.has = true then 1 else 0) + J.log.length = i
  tot : tot J.log ≤ i * 65542
theorem Fl.emp {i : Nat} (z : Fl W w j J i) (hk : Kp Emp w w') : Fl W w' j J i := by
  obtain ⟨M, lob, h, hM⟩ := z.ex
  exact ⟨⟨M, lob, h.kp' hk, hM⟩, z.k.trans hk, z.off, z.left, z.safe, z.by_, z.len, z.n, z.tot⟩
end
end Go.Proofs.Qxb6500896aGreatDoor
