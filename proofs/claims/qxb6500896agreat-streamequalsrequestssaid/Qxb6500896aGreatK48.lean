import Derived.Test.Qxb6500896aGreatK47
namespace Go.Proofs.Qxb6500896aGreat
open Go.Sh Go.RowKit
set_option linter.unusedVariables false
set_option linter.unusedSimpArgs false

section
variable {F M M' S : Nat → Prop} {w w' w1 : World} {v rv lv : Value} {l : List Value} {n wb e t : Nat} {rob : Option Nat} {lobs : List (Option Nat)} {C : Cfg} {ls : List (List Int)} {rs : List Rec} {K : Value → World → Prop} {m : Me} {σ : Sg} {J : Jr}
/-- the engine gets another table -/
theorem En.stT {kk : World → Prop} (h : En M w e m C σ J) (ht : Tb M w t rob C rs)
    (hK : ∀ w', En M w' e { m with t := t, rob := rob } C { σ with rs := rs } J → Kp (fun b => b = e) w w' → w'.heap.size = w.heap.size → kk w') : st1 (P e 15) (P t 0) kk w := by
  have hne := fun {b : Nat} => h.neE (b := b)
  obtain ⟨va, vt, env, r, hc, hs, hm⟩ := h.ex
  have hteq : ∀ b, OwnT t rob b → ¬ b = e := fun b q => by
    obtain ⟨cl, rv, r1, _, its, _, s1, _⟩ := ht.ex
    rcases q with q | q
    · rw [q]; exact row_ne r1 r (by decide)
    · obtain ⟨l, hl⟩ := s1.row q
      exact row_ne hl r (by decide)
  refine st1_r r (by simp [Cfg.cells, Sg.cells]) rfl fun w1 r1 hk1 hz1 => ?_
  have hxs := Ext.same h.lt hk1
  have hS : ∀ b, b = e → b < w.heap.size → M b := fun b q _ => q ▸ h.me
  exact hK w1 ⟨⟨va, vt, env, r1, hc.ext hxs hk1 hS, hs.kp hk1 fun b q => hne (.inr (.inr (.inr q))), hm⟩, ht.ext hxs hk1 hS hteq, h.li.ext hxs hk1 hS (fun b q => hne (.inr (.inl q))), h.jn.ext hxs hk1 hS (fun b q => hne (.inr (.inr (.inl q)))), h.me, h.rf⟩ hk1 hz1
/-- the engine gets other lines -/
theorem En.stL {kk : World → Prop} (h : En M w e m C σ J) (hl : Li M w n wb lobs C ls)
    (hK : ∀ w', En M w' e { m with n := n, wb := wb, lobs := lobs } C { σ with ls := ls } J → Kp (fun b => b = e) w w' → w'.heap.size = w.heap.size → kk w') : st1 (P e 16) (P n 0) kk w := by
  have hne := fun {b : Nat} => h.neE (b := b)
  obtain ⟨va, vt, env, r, hc, hs, hm⟩ := h.ex
  have hleq : ∀ b, OwnL n wb lobs b → ¬ b = e := fun b q => by
    obtain ⟨cl2, its2, q1, _, e1, e2, e3, e4, _⟩ := hl.ex
    rcases q with q | q | q
    · rw [q]; exact row_ne q1 r (by decide)
    · rw [q]; exact row_ne e3 r (by decide)
    · rw [← e2] at q
      obtain ⟨p, hp, hb⟩ := List.mem_map.1 q
      obtain ⟨l2, hl2⟩ := (e4 p hp).1.row hb
      exact row_ne hl2 r (by decide)
  refine st1_r r (by simp [Cfg.cells, Sg.cells]) rfl fun w1 r1 hk1 hz1 => ?_
  have hxs := Ext.same h.lt hk1
  have hS : ∀ b, b = e → b < w.heap.size → M b := fun b q _ => q ▸ h.me
  exact hK w1 ⟨⟨va, vt, env, r1, hc.ext hxs hk1 hS, hs.kp hk1 fun b q => hne (.inr (.inr (.inr q))), hm⟩, h.tb.ext hxs hk1 hS (fun b q => hne (.inl q)), hl.ext hxs hk1 hS hleq, h.jn.ext hxs hk1 hS (fun b q => hne (.inr (.inr (.inl q)))), h.me, h.rf⟩ hk1 hz1
end
end Go.Proofs.Qxb6500896aGreat
