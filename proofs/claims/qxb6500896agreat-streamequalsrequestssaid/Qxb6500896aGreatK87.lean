import Derived.Test.Qxb6500896aGreatN13
import Derived.Test.Qxb6500896aGreatK86
namespace Go.Proofs.Qxb6500896aGreat
open Go.Sh Go.RowKit
set_option linter.unusedVariables false
set_option linter.unusedSimpArgs false

section
variable {W w w' w0 w1 : World} {V S F M : Nat → Prop} {r e : Nat} {σ σ' : Sg} {J : Jr} {K : Value → World → Prop} {v : Value} {bs : List Int} {m : Me} {p : Rp} {ob : Option Nat}
/-- whatever is new is the law's own -/
theorem Lz.gro (z : Lz W V w r e σ J) (hk : Kp S w w') (hS : ∀ b, S b → V b) : Lz W (fun b => V b ∨ Nb w w' b) w' r e σ J := by
  obtain ⟨M, m, h, hr, hM, hV⟩ := z.ex
  have hWz := z.k.size
  have hx : Ext M (fun b => M b ∨ Nb w w' b) w w' := ⟨fun b q => .inl q, fun b q => q.imp id (·.1), hk.size, fun b q => by
    rcases q with q | q
    · have := h.lt b q; have := hk.size; omega
    · exact q.2⟩
  refine ⟨⟨_, m, h.ext hx hk (fun b q _ => (hV b (hS b q)).1) fun b q q2 => (hV b (hS b q2)).2.1 q, hk.row hr fun q => (hV r (hS r q)).2.2 rfl, fun b q => ?_, fun c q => ?_⟩, z.k.then hk fun b hb q => by have := hM b (hV b (hS b q)).1; omega, z.i, z.lo, z.r0⟩
  · rcases q with q | q
    · exact hM b q
    · have := q.1; omega
  · rcases q with q | q
    · exact ⟨.inl (hV c q).1, (hV c q).2⟩
    · exact ⟨.inr q, fun q2 => by have := h.lt _ (h.own q2); have := q.1; omega, fun e => by have := hr.lt; have := q.1; omega⟩
theorem Lz.lt (z : Lz W V w r e σ J) : ∀ c, V c → c < w.heap.size := fun c hc => by
  obtain ⟨M, m, h, hr, hM, hV⟩ := z.ex
  exact h.lt c (hV c hc).1
set_option maxRecDepth 100000 in
theorem okSend : okF Tryz.prog 24 = true := by kernel_rfl
/-- the bound method of the rig -/
abbrev sendV (r : Nat) : Value := .func (.func 24) #[P r 0] #[]
/-- the rig answers questions -/
theorem Lz.srv (h : RgI park σ J) (hlo : σ.loose = 0) (hs : σ.seq ≤ 1000000000) : Srv W (sendV r) (ansE σ J) (fun V w => ∃ σ', Lz W V w r e σ' J ∧ Core σ σ') where
  k := fun ⟨σ', z, c⟩ => z.k
  lt := fun ⟨σ', z, c⟩ => z.lt
  gro := fun ⟨σ', z, c⟩ hk hS => ⟨σ', z.gro hk hS, c⟩
  sub := fun ⟨σ', z, c⟩ hV => ⟨σ', z.sub hV, c⟩
  len := fun q => hnd_len h
  call := by
    intro V F w v q K ⟨σ', z, c⟩ hq ha hF hK
    have hseq := c.seq
    obtain ⟨e1, e2, e3⟩ := hq.hnd z.i z.lo (by omega)
    have ea := ansE_core hq h hlo (by omega) z.i z.lo (by omega) c
    refine ⟨okSend, ?_⟩
    show cl Tryz.prog 24 #[P r 0, v] K w
    refine z.send (by omega) ha hF hq.by_ fun w1 v1 b1 S z1 sl1 hb1 hk1 hS hW => ?_
    rw [e2] at z1
    have sl2 : Sl bC 1 w1 5 (some b1) v1 (ansE σ J q) := by rw [← ea]; exact sl1
    exact hK w1 v1 b1 S ⟨_, z1, c.trans e3⟩ sl2 hb1 hk1 hS hW
/-- the code of a reply -/
theorem code_ok (sl : Sl bC 1 w 5 ob v (eR p)) (hp : 0 ≤ p.code ∧ p.code ≤ 255) (hK : K (I p.code) w) : cl Tryz.prog 29 #[v] K w := by
  apply c29
  unfold s29_p1
  refine sl.ln ?_
  have hl : 0 < (eR p).length := by unfold eR; split <;> simp
  have e0 : ((((eR p).length : Nat) : Int) == 0) = false := by
    rw [beq_eq_false_iff_ne]; omega
  simp only [e0, e_fd, e_nck, e_pkt, e_pkf, e_gdtt, e_gdtf, e_gdft, e_gdff, e_ift, e_iff, e_not, e_ln, e_lnT, e_cp, e_cvi, e_ex20, e_ex21, e_ex30, e_ex31, e_ex32, e_add, e_sub, e_mul, e_quo, e_rem, e_and, e_or, e_xor, e_shl, e_shr, e_eql, e_neq, e_lss, e_leq, e_gtr, e_geq, e_beq, e_bne, e_peq1, e_peq2, e_pne1, e_pne2, e_zeq1, e_zeq2, e_zne1, e_zne2, e_feq1, e_fne1, e_feq2, e_fne2, e_seq, e_sne, e_ta1, e_ta2, Nat.zero_add, Nat.add_zero, Bool.not_true, Bool.not_false]
  refine sl.ix bC_len (i := 0) hl fun b l eb rb hj hlen _ => ?_
  have h0 := hj 0 (by decide)
  rw [Nat.zero_mul, Nat.add_zero] at h0
  have ev : (eR p)[0] = p.code := by
    have : (eR p)[0]? = some p.code := by
      unfold eR
      split
      · rename_i h; rw [h]; rfl
      · rfl
    rw [List.getElem?_eq_getElem hl] at this
    exact Option.some.inj this
  refine ld1_r (v := U8 p.code) rb (by rw [Nat.zero_mul, h0, ev]; rfl) ?_
  try simp only [e_fd, e_nck, e_pkt, e_pkf, e_gdtt, e_gdtf, e_gdft, e_gdff, e_ift, e_iff, e_not, e_ln, e_lnT, e_cp, e_cvi, e_ex20, e_ex21, e_ex30, e_ex31, e_ex32, e_add, e_sub, e_mul, e_quo, e_rem, e_and, e_or, e_xor, e_shl, e_shr, e_eql, e_neq, e_lss, e_leq, e_gtr, e_geq, e_beq, e_bne, e_peq1, e_peq2, e_pne1, e_pne2, e_zeq1, e_zeq2, e_zne1, e_zne2, e_feq1, e_fne1, e_feq2, e_fne2, e_seq, e_sne, e_ta1, e_ta2, Nat.zero_add, Nat.add_zero, Bool.not_true, Bool.not_false]
  rw [wrap64_id (by omega) (by omega)]
  exact hK
end
end Go.Proofs.Qxb6500896aGreat
