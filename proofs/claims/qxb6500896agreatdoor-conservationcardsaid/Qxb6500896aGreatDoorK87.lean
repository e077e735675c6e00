import Derived.Test.Qxb6500896aGreatDoorN13
import Derived.Test.Qxb6500896aGreatDoorK86
namespace Go.Proofs.Qxb6500896aGreatDoor
open Go.Sh Go.RowKit
set_option linter.unusedVariables false
set_option linter.unusedSimpArgs false

section
variable {W w w' w0 w1 : World} {V S F M : Nat → Prop} {r e : Nat} {σ σ' : Sg} {J : Jr} {K : Value → World → Prop} {v : Value} {bs : List Int} {m : Me} {p : Rp} {ob : Option Nat}
/-- whatever is new is the law's own -/
theorem Lz.gro (z : Lz W V w r e σ J) (hk : Kp S w w') (hS : ∀ b, S b → V b) : Lz W (fun b => V b ∨ Nb w w' b) w' r e σ J := by
  obtain ⟨M, m, h, hr, hM, hV⟩ := z.ex
  have hWz := z.k.size
  have hx : Ext M (fun b => M b ∨ Nb w w' b) w w' := ⟨fun b q => .inl q, fun b q => q.imp id (·.1), hk.size, fun b q => by
    rcases q with q | q
    · have := h.lt b q; have := hk.size; omega
    · exact q.2⟩
  refine ⟨⟨_, m, h.ext hx hk (fun b q _ => (hV b (hS b q)).1) fun b q q2 => (hV b (hS b q2)).2.1 q, hk.row hr fun q => (hV r (hS r q)).2.2 rfl, fun b q => ?_, fun c q => ?_⟩, z.k.then hk fun b hb q => by have := hM b (hV b (hS b q)).1; omega, z.i, z.lo, z.r0⟩
  · rcases q with q | q
    · exact hM b q
    · have := q.1; omega
  · rcases q with q | q
    · exact ⟨.inl (hV c q).1, (hV c q).2⟩
    · exact ⟨.inr q, fun q2 => by have := h.lt _ (h.own q2); have := q.1; omega, fun e => by have := hr.lt; have := q.1; omega⟩
theorem Lz.lt (z : Lz W V w r e σ J) : ∀ c, V c → c < w.heap.size := fun c hc => by
  obtain ⟨M, m, h, hr, hM, hV⟩ := z.ex
  exact h.lt c (hV c hc).1
set_option maxRecDepth 100000 in
theorem okSend : okF Tryz.prog 11 = true := by kernel_rfl
/-- the bound method of the rig -/
abbrev sendV (r : Nat) : Value := .func (.func 11) #[P r 0] #[]
/-- the rig answers questions -/
theorem Lz.srv (h : RgI park σ J) (hlo : σ.loose = 0) (hs : σ.seq ≤ 1000000000) : Srv W (sendV r) (ansE σ J) (fun V w => ∃ σ', Lz W V w r e σ' J ∧ Core σ σ') where
  k := fun ⟨σ', z, c⟩ => z.k
  lt := fun ⟨σ', z, c⟩ => z.lt
  gro := fun ⟨σ', z, c⟩ hk hS => ⟨σ', z.gro hk hS, c⟩
  sub := fun ⟨σ', z, c⟩ hV => ⟨σ', z.sub hV, c⟩
  len := fun q => hnd_len h
  call := by
    intro V F w v q K ⟨σ', z, c⟩ hq ha hF hK
    have hseq := c.seq
    obtain ⟨e1, e2, e3⟩ := hq.hnd z.i z.lo (by omega)
    have ea := ansE_core hq h hlo (by omega) z.i z.lo (by omega) c
    refine ⟨okSend, ?_⟩
    show cl Tryz.prog 11 #[P r 0, v] K w
    refine z.send (by omega) ha hF hq.by_ fun w1 v1 b1 S z1 sl1 hb1 hk1 hS hW => ?_
    rw [e2] at z1
    have sl2 : Sl bC 1 w1 5 (some b1) v1 (ansE σ J q) := by rw [← ea]; exact sl1
    exact hK w1 v1 b1 S ⟨_, z1, c.trans e3⟩ sl2 hb1 hk1 hS hW
end
end Go.Proofs.Qxb6500896aGreatDoor
