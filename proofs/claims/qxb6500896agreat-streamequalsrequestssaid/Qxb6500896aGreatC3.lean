import Derived.Test.Qxb6500896aGreatC2
import Derived.Test.Qxb6500896aGreatN19
namespace Go.Proofs.Qxb6500896aGreat
open Go.Sh Go.RowKit
set_option linter.unusedVariables false
set_option linter.unusedSimpArgs false

/-! ### a rig in a run with failures -/
/-- an engine is there, up or down -/
structure Le (W : World) (V : Nat → Prop) (w : World) (r e : Nat) (σ : Sg) (J : Jr) : Prop where
  ex : ∃ M m, En M w e m park σ J ∧ (Row w r 47 [P m.j 0, P e 0] ∧ M r) ∧ (∀ b, M b → W.heap.size ≤ b) ∧ ∀ c, V c → M c ∧ ¬ OwnE e m c ∧ c ≠ r
  k : Kp Emp W w
  r0 : W.heap.size ≤ r
/-- the journal alone; x: what stands for the engine -/
structure La (W : World) (V : Nat → Prop) (w : World) (r : Nat) (x : Value) (J : Jr) : Prop where
  ex : ∃ M j lob, Jn M w j lob J ∧ (Row w r 47 [P j 0, x] ∧ M r) ∧ (∀ b, M b → W.heap.size ≤ b) ∧ ∀ c, V c → M c ∧ ¬ OwnJ j lob c ∧ c ≠ r
  k : Kp Emp W w
  r0 : W.heap.size ≤ r
section
variable {W w w' w0 w1 : World} {V V' S F : Nat → Prop} {r e c : Nat} {σ : Sg} {J : Jr} {K : Value → World → Prop} {v x : Value} {bs : List Int} {M : Nat → Prop} {m : Me} {k : Int} {q : Rq}
theorem Le.la (z : Le W V w r e σ J) : La W V w r (P e 0) J := by
  obtain ⟨M, m, h, hr, hM, hV⟩ := z.ex
  exact ⟨⟨M, m.j, m.lob, h.jn, hr, hM, fun c hc => ⟨(hV c hc).1, fun q => (hV c hc).2.1 (.inr (.inr (.inr (.inl q)))), (hV c hc).2.2⟩⟩, z.k, z.r0⟩
theorem Le.emp (z : Le W V w r e σ J) (hk : Kp Emp w w') : Le W V w' r e σ J := by
  obtain ⟨M, m, h, hr, hM, hV⟩ := z.ex
  exact ⟨⟨M, m, h.kp' hk, ⟨hk.row' hr.1, hr.2⟩, hM, hV⟩, z.k.trans hk, z.r0⟩
theorem La.emp (z : La W V w r x J) (hk : Kp Emp w w') : La W V w' r x J := by
  obtain ⟨M, j, lob, h, hr, hM, hV⟩ := z.ex
  exact ⟨⟨M, j, lob, h.kp' hk, ⟨hk.row' hr.1, hr.2⟩, hM, hV⟩, z.k.trans hk, z.r0⟩
theorem Le.sub (z : Le W V w r e σ J) (h : ∀ c, V' c → V c) : Le W V' w r e σ J := by
  obtain ⟨M, m, h1, hr, hM, hV⟩ := z.ex
  exact ⟨⟨M, m, h1, hr, hM, fun c q => hV c (h c q)⟩, z.k, z.r0⟩
theorem La.sub (z : La W V w r x J) (h : ∀ c, V' c → V c) : La W V' w r x J := by
  obtain ⟨M, j, lob, h1, hr, hM, hV⟩ := z.ex
  exact ⟨⟨M, j, lob, h1, hr, hM, fun c q => hV c (h c q)⟩, z.k, z.r0⟩
theorem Le.lt (z : Le W V w r e σ J) : ∀ c, V c → c < w.heap.size := fun c hc => by
  obtain ⟨M, m, h, hr, hM, hV⟩ := z.ex
  exact h.lt c (hV c hc).1
theorem La.lt (z : La W V w r x J) : ∀ c, V c → c < w.heap.size := fun c hc => by
  obtain ⟨M, j, lob, h, hr, hM, hV⟩ := z.ex
  exact h.lt c (hV c hc).1
theorem Le.gro (z : Le W V w r e σ J) (hk : Kp S w w') (hS : ∀ b, S b → V b) : Le W (fun b => V b ∨ Nb w w' b) w' r e σ J := by
  obtain ⟨M, m, h, hr, hM, hV⟩ := z.ex
  have hWz := z.k.size
  have hx : Ext M (fun b => M b ∨ Nb w w' b) w w' := ⟨fun b q => .inl q, fun b q => q.imp id (·.1), hk.size, fun b q => by
    rcases q with q | q
    · have := h.lt b q; have := hk.size; omega
    · exact q.2⟩
  refine ⟨⟨_, m, h.ext hx hk (fun b q _ => (hV b (hS b q)).1) fun b q q2 => (hV b (hS b q2)).2.1 q, ⟨hk.row hr.1 fun q => (hV r (hS r q)).2.2 rfl, .inl hr.2⟩, fun b q => ?_, fun c q => ?_⟩, z.k.then hk fun b hb q => by have := hM b (hV b (hS b q)).1; omega, z.r0⟩
  · rcases q with q | q
    · exact hM b q
    · have := q.1; omega
  · rcases q with q | q
    · exact ⟨.inl (hV c q).1, (hV c q).2⟩
    · exact ⟨.inr q, fun q2 => by have := h.lt _ (h.own q2); have := q.1; omega, fun e => by have := hr.1.lt; have := q.1; omega⟩
theorem La.gro (z : La W V w r x J) (hk : Kp S w w') (hS : ∀ b, S b → V b) : La W (fun b => V b ∨ Nb w w' b) w' r x J := by
  obtain ⟨M, j, lob, h, hr, hM, hV⟩ := z.ex
  have hWz := z.k.size
  have hx : Ext M (fun b => M b ∨ Nb w w' b) w w' := ⟨fun b q => .inl q, fun b q => q.imp id (·.1), hk.size, fun b q => by
    rcases q with q | q
    · have := h.lt b q; have := hk.size; omega
    · exact q.2⟩
  refine ⟨⟨_, j, lob, h.ext hx hk (fun b q _ => (hV b (hS b q)).1) fun b q q2 => (hV b (hS b q2)).2.1 q, ⟨hk.row hr.1 fun q => (hV r (hS r q)).2.2 rfl, .inl hr.2⟩, fun b q => ?_, fun c q => ?_⟩, z.k.then hk fun b hb q => by have := hM b (hV b (hS b q)).1; omega, z.r0⟩
  · rcases q with q | q
    · exact hM b q
    · have := q.1; omega
  · rcases q with q | q
    · exact ⟨.inl (hV c q).1, (hV c q).2⟩
    · exact ⟨.inr q, fun q2 => by have := h.lt _ (h.own q2); have := q.1; omega, fun e => by have := hr.1.lt; have := q.1; omega⟩
/-- a request is sent -/
theorem Le.send (z : Le W V w r e σ J) (g : GS k σ) (hk : k ≤ 1000000) (hx : Ar bC 1 F w v bs) (hF : ∀ b, F b → b < w.heap.size) (hB : By bs)
    (hK : ∀ w' v' b S, Le W (fun c => V c ∨ c = b) w' r e (hndS park bs σ J).1 (hndS park bs σ J).2.1 → Sl bC 1 w' 5 (some b) v' (eR (hndS park bs σ J).2.2) → w.heap.size ≤ b → Kp S w w' → (∀ c, V c → ¬ S c) → (∀ c, c < W.heap.size → ¬ S c) → K v' w') : cl Tryz.prog 24 #[P r 0, v] K w := by
  obtain ⟨M, m, h, ⟨hr, hMr⟩, hM, hV⟩ := z.ex
  apply c24
  unfold s24_p1
  try simp only [e_fd, e_nck, e_pkt, e_pkf, e_gdtt, e_gdtf, e_gdft, e_gdff, e_ift, e_iff, e_not, e_ln, e_lnT, e_cp, e_cvi, e_ex20, e_ex21, e_ex30, e_ex31, e_ex32, e_add, e_sub, e_mul, e_quo, e_rem, e_and, e_or, e_xor, e_shl, e_shr, e_eql, e_neq, e_lss, e_leq, e_gtr, e_geq, e_beq, e_bne, e_peq1, e_peq2, e_pne1, e_pne2, e_zeq1, e_zeq2, e_zne1, e_zne2, e_feq1, e_fne1, e_feq2, e_fne2, e_seq, e_sne, e_ta1, e_ta2, Nat.zero_add, Nat.add_zero, Bool.not_true, Bool.not_false]
  refine ld1_r hr rfl ?_
  try simp only [e_fd, e_nck, e_pkt, e_pkf, e_gdtt, e_gdtf, e_gdft, e_gdff, e_ift, e_iff, e_not, e_ln, e_lnT, e_cp, e_cvi, e_ex20, e_ex21, e_ex30, e_ex31, e_ex32, e_add, e_sub, e_mul, e_quo, e_rem, e_and, e_or, e_xor, e_shl, e_shr, e_eql, e_neq, e_lss, e_leq, e_gtr, e_geq, e_beq, e_bne, e_peq1, e_peq2, e_pne1, e_pne2, e_zeq1, e_zeq2, e_zne1, e_zne2, e_feq1, e_fne1, e_feq2, e_fne2, e_seq, e_sne, e_ta1, e_ta2, Nat.zero_add, Nat.add_zero, Bool.not_true, Bool.not_false]
  refine ld1_r hr rfl ?_
  refine hndE_ok park_cv (by decide) g.g (g.eb hk) h hx hF hB fun w1 M1 m1 v1 b1 hx1 hk1 hj1 ho1 h1 s1 fb1 mb1 => ?_
  have hWz := z.k.size
  refine hK w1 v1 b1 (OwnE e m) ⟨⟨M1, m1, h1, ⟨?_, hx1.sub r hMr⟩, fun b q => ?_, fun c q => ?_⟩, z.k.then hk1 fun b hb q => ?_, z.r0⟩ s1 fb1.1 hk1 (fun c q => (hV c q).2.1) fun c hc q => ?_
  · rw [hj1]; exact hk1.row hr (h.nRig hr)
  · rcases hx1.new b q with q | q
    · exact hM b q
    · omega
  · rcases q with q | q
    · refine ⟨hx1.sub c (hV c q).1, fun q2 => ?_, (hV c q).2.2⟩
      rcases ho1 c q2 with q2 | q2
      · exact (hV c q).2.1 q2
      · have := h.lt c (hV c q).1; omega
    · subst q
      exact ⟨mb1, fb1.2.2, fun e => by have := hr.lt; have := fb1.1; omega⟩
  · have := hM b (h.own q); omega
  · have := hM c (h.own q); omega
/-- nobody answers -/
theorem La.send (z : La W V w r (.pointer none) J) (hK : ∀ w' v', Kp Emp w w' → K v' w') : cl Tryz.prog 24 #[P r 0, v] K w := by
  obtain ⟨M, j, lob, h, ⟨hr, hMr⟩, hM, hV⟩ := z.ex
  apply c24
  unfold s24_p1
  try simp only [e_fd, e_nck, e_pkt, e_pkf, e_gdtt, e_gdtf, e_gdft, e_gdff, e_ift, e_iff, e_not, e_ln, e_lnT, e_cp, e_cvi, e_ex20, e_ex21, e_ex30, e_ex31, e_ex32, e_add, e_sub, e_mul, e_quo, e_rem, e_and, e_or, e_xor, e_shl, e_shr, e_eql, e_neq, e_lss, e_leq, e_gtr, e_geq, e_beq, e_bne, e_peq1, e_peq2, e_pne1, e_pne2, e_zeq1, e_zeq2, e_zne1, e_zne2, e_feq1, e_fne1, e_feq2, e_fne2, e_seq, e_sne, e_ta1, e_ta2, Nat.zero_add, Nat.add_zero, Bool.not_true, Bool.not_false]
  refine ld1_r hr rfl ?_
  try simp only [e_fd, e_nck, e_pkt, e_pkf, e_gdtt, e_gdtf, e_gdft, e_gdff, e_ift, e_iff, e_not, e_ln, e_lnT, e_cp, e_cvi, e_ex20, e_ex21, e_ex30, e_ex31, e_ex32, e_add, e_sub, e_mul, e_quo, e_rem, e_and, e_or, e_xor, e_shl, e_shr, e_eql, e_neq, e_lss, e_leq, e_gtr, e_geq, e_beq, e_bne, e_peq1, e_peq2, e_pne1, e_pne2, e_zeq1, e_zeq2, e_zne1, e_zne2, e_feq1, e_fne1, e_feq2, e_fne2, e_seq, e_sne, e_ta1, e_ta2, Nat.zero_add, Nat.add_zero, Bool.not_true, Bool.not_false]
  refine bsq_r (l := [U8 19]) rfl fun w1 r1 hk1 hz1 => ?_
  exact hK w1 _ hk1
theorem down_ok {C : Cfg} (h : En M w e m C σ J) (hK : K (.bool σ.down) w) : cl Tryz.prog 111 #[P e 0] K w := by
  obtain ⟨va, vt, env, r, _⟩ := h.ex
  apply c111
  unfold s111_p1
  try simp only [e_fd, e_nck, e_pkt, e_pkf, e_gdtt, e_gdtf, e_gdft, e_gdff, e_ift, e_iff, e_not, e_ln, e_lnT, e_cp, e_cvi, e_ex20, e_ex21, e_ex30, e_ex31, e_ex32, e_add, e_sub, e_mul, e_quo, e_rem, e_and, e_or, e_xor, e_shl, e_shr, e_eql, e_neq, e_lss, e_leq, e_gtr, e_geq, e_beq, e_bne, e_peq1, e_peq2, e_pne1, e_pne2, e_zeq1, e_zeq2, e_zne1, e_zne2, e_feq1, e_fne1, e_feq2, e_fne2, e_seq, e_sne, e_ta1, e_ta2, Nat.zero_add, Nat.add_zero, Bool.not_true, Bool.not_false]
  exact ld1_r r rfl hK
theorem Le.up (z : Le W V w r e σ J) (hK : K (.bool (!σ.down)) w) : cl Tryz.prog 34 #[P r 0] K w := by
  obtain ⟨M, m, h, ⟨hr, hMr⟩, hM, hV⟩ := z.ex
  apply c34
  unfold s34_p1
  try simp only [e_fd, e_nck, e_pkt, e_pkf, e_gdtt, e_gdtf, e_gdft, e_gdff, e_ift, e_iff, e_not, e_ln, e_lnT, e_cp, e_cvi, e_ex20, e_ex21, e_ex30, e_ex31, e_ex32, e_add, e_sub, e_mul, e_quo, e_rem, e_and, e_or, e_xor, e_shl, e_shr, e_eql, e_neq, e_lss, e_leq, e_gtr, e_geq, e_beq, e_bne, e_peq1, e_peq2, e_pne1, e_pne2, e_zeq1, e_zeq2, e_zne1, e_zne2, e_feq1, e_fne1, e_feq2, e_fne2, e_seq, e_sne, e_ta1, e_ta2, Nat.zero_add, Nat.add_zero, Bool.not_true, Bool.not_false]
  refine ld1_r hr rfl ?_
  try simp only [e_fd, e_nck, e_pkt, e_pkf, e_gdtt, e_gdtf, e_gdft, e_gdff, e_ift, e_iff, e_not, e_ln, e_lnT, e_cp, e_cvi, e_ex20, e_ex21, e_ex30, e_ex31, e_ex32, e_add, e_sub, e_mul, e_quo, e_rem, e_and, e_or, e_xor, e_shl, e_shr, e_eql, e_neq, e_lss, e_leq, e_gtr, e_geq, e_beq, e_bne, e_peq1, e_peq2, e_pne1, e_pne2, e_zeq1, e_zeq2, e_zne1, e_zne2, e_feq1, e_fne1, e_feq2, e_fne2, e_seq, e_sne, e_ta1, e_ta2, Nat.zero_add, Nat.add_zero, Bool.not_true, Bool.not_false]
  refine ld1_r hr rfl ?_
  refine down_ok h ?_
  try simp only [e_fd, e_nck, e_pkt, e_pkf, e_gdtt, e_gdtf, e_gdft, e_gdff, e_ift, e_iff, e_not, e_ln, e_lnT, e_cp, e_cvi, e_ex20, e_ex21, e_ex30, e_ex31, e_ex32, e_add, e_sub, e_mul, e_quo, e_rem, e_and, e_or, e_xor, e_shl, e_shr, e_eql, e_neq, e_lss, e_leq, e_gtr, e_geq, e_beq, e_bne, e_peq1, e_peq2, e_pne1, e_pne2, e_zeq1, e_zeq2, e_zne1, e_zne2, e_feq1, e_fne1, e_feq2, e_fne2, e_seq, e_sne, e_ta1, e_ta2, Nat.zero_add, Nat.add_zero, Bool.not_true, Bool.not_false]
  exact hK
theorem La.up (z : La W V w r (.pointer none) J) (hK : K (.bool false) w) : cl Tryz.prog 34 #[P r 0] K w := by
  obtain ⟨M, j, lob, h, ⟨hr, hMr⟩, hM, hV⟩ := z.ex
  apply c34
  unfold s34_p1
  try simp only [e_fd, e_nck, e_pkt, e_pkf, e_gdtt, e_gdtf, e_gdft, e_gdff, e_ift, e_iff, e_not, e_ln, e_lnT, e_cp, e_cvi, e_ex20, e_ex21, e_ex30, e_ex31, e_ex32, e_add, e_sub, e_mul, e_quo, e_rem, e_and, e_or, e_xor, e_shl, e_shr, e_eql, e_neq, e_lss, e_leq, e_gtr, e_geq, e_beq, e_bne, e_peq1, e_peq2, e_pne1, e_pne2, e_zeq1, e_zeq2, e_zne1, e_zne2, e_feq1, e_fne1, e_feq2, e_fne2, e_seq, e_sne, e_ta1, e_ta2, Nat.zero_add, Nat.add_zero, Bool.not_true, Bool.not_false]
  refine ld1_r hr rfl ?_
  try simp only [e_fd, e_nck, e_pkt, e_pkf, e_gdtt, e_gdtf, e_gdft, e_gdff, e_ift, e_iff, e_not, e_ln, e_lnT, e_cp, e_cvi, e_ex20, e_ex21, e_ex30, e_ex31, e_ex32, e_add, e_sub, e_mul, e_quo, e_rem, e_and, e_or, e_xor, e_shl, e_shr, e_eql, e_neq, e_lss, e_leq, e_gtr, e_geq, e_beq, e_bne, e_peq1, e_peq2, e_pne1, e_pne2, e_zeq1, e_zeq2, e_zne1, e_zne2, e_feq1, e_fne1, e_feq2, e_fne2, e_seq, e_sne, e_ta1, e_ta2, Nat.zero_add, Nat.add_zero, Bool.not_true, Bool.not_false]
  exact hK
/-- the journal is turned: the engine stays -/
theorem Le.arm {a b : Int} {X : World → Prop} (ha : a ≤ 9223372036854775807) (z : Le W V w r e σ J) (hK : ∀ w', Le W V w' r e σ (armJ J a b) → Kp (fun c => ¬ V c) w w' → X w') : ∃ j : Nat, Row w r 47 [P j 0, P e 0] ∧ cl Tryz.prog 32 #[P j 0, I a, I b] (fun _ w => X w) w := by
  obtain ⟨M, m, h, ⟨hr, hMr⟩, hM, hV⟩ := z.ex
  refine ⟨m.j, hr, ?_⟩
  have hWz := z.k.size
  refine arm_ok ha h.jn fun w1 j1 hk1 hz1 => ?_
  have h1 := h.jrn (Ext.same h.lt hk1) hk1 (fun b (q : b = m.j) => .inl q) j1
  have nj : ∀ c, V c → ¬ c = m.j := fun c hc q => (hV c hc).2.1 (.inr (.inr (.inr (.inl (.inl q)))))
  have hnr := h.nRig hr
  refine hK w1 ⟨⟨M, m, h1, ⟨hk1.row hr (fun (q : r = m.j) => hnr (.inr (.inr (.inr (.inl (.inl q)))))), hMr⟩, hM, hV⟩, z.k.then hk1 fun b hb (q : b = m.j) => by have := hM m.j h.jn.mj; omega, z.r0⟩ (hk1.mono fun b _ (q : b = m.j) hVb => nj b hVb q)
theorem La.arm {a b : Int} {X : World → Prop} (ha : a ≤ 9223372036854775807) (z : La W V w r x J) (hK : ∀ w', La W V w' r x (armJ J a b) → Kp (fun c => ¬ V c) w w' → X w') : ∃ j : Nat, Row w r 47 [P j 0, x] ∧ cl Tryz.prog 32 #[P j 0, I a, I b] (fun _ w => X w) w := by
  obtain ⟨M, j, lob, h, ⟨hr, hMr⟩, hM, hV⟩ := z.ex
  refine ⟨j, hr, ?_⟩
  have hWz := z.k.size
  refine arm_ok ha h fun w1 j1 hk1 hz1 => ?_
  have nj : ∀ c, V c → ¬ c = j := fun c hc q => (hV c hc).2.1 (.inl q)
  obtain ⟨sv, lv, rj, _⟩ := h.ex
  refine hK w1 ⟨⟨M, j, lob, j1, ⟨hk1.row hr (fun (q : r = j) => row_ne hr rj (by decide) q), hMr⟩, hM, hV⟩, z.k.then hk1 fun b hb (q : b = j) => by have := hM j h.mj; omega, z.r0⟩ (hk1.mono fun b _ (q : b = j) hVb => nj b hVb q)
end
end Go.Proofs.Qxb6500896aGreat
