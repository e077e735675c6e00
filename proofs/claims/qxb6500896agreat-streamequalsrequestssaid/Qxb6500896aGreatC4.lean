import Derived.Test.Qxb6500896aGreatC3
namespace Go.Proofs.Qxb6500896aGreat
open Go.Sh Go.RowKit
set_option linter.unusedVariables false
set_option linter.unusedSimpArgs false

section
variable {W w w' w0 w1 : World} {V V' S F : Nat → Prop} {r e c : Nat} {σ : Sg} {J : Jr} {K : Value → World → Prop} {v x : Value} {bs : List Int} {M : Nat → Prop} {m : Me} {k : Int} {q : Rq} {p : Op × Value}
/-- the last part of a reopening: a new engine, or none -/
theorem reopen_2 (z : La W V w r x J) (g : GJ k J) (hk : 0 ≤ k)
    (hK : ∀ w' v' J', GJ k J' → (La W V w' r (.pointer none) J' ∨ ∃ e σ, Le W V w' r e σ J' ∧ GS k σ) → Kp (fun c => ¬ V c) w w' → K v' w') : s33_p2 K (P r 0) w := by
  unfold s33_p2 s33_p2_d
  have kd : Kp Emp w (drw w) := kp_drw
  generalize drw w = w1 at kd ⊢
  have z1 := z.emp kd
  obtain ⟨M, j, lob, h, ⟨hr, hMr⟩, hM, hV⟩ := z1.ex
  have hWz := z1.k.size
  have hj0 := hM j h.mj
  refine nk0 (fdp (ld1_r (v := P j 0) hr rfl ?_))
  refine park_ok fun w2 l2 hk2 hc2 => ⟨hk2.below', ?_⟩
  have h2 := h.kp' hk2
  have r2 := hk2.row' hr
  have jlt := h.lt j h.mj
  obtain ⟨g1, g2⟩ := opn_keep g hk
  have hnr : ¬ OwnJ j lob r := fun q => by
    obtain ⟨sv, lv, rj, hs, evs, s1, s2, _⟩ := h2.ex
    rcases q with q | q
    · exact row_ne r2 rj (by decide) q
    · obtain ⟨l', hl'⟩ := s1.row q
      exact row_ne r2 hl' (by decide) rfl
  have own0 : ∀ b, OwnJ j lob b → W.heap.size ≤ b := fun b q => hM b (h.own q)
  have s12 := hk2.size
  refine open_ok hc2 park_v (by decide) h2 (fun b q => by have := q.1; omega) g.jb (fun hno w3 M3 lob3 ev hx3 hk3 ho3 jn3 her => ?_) (fun σ' hs w3 M3 e m hx3 hk3 hmj hown hel he3 => ?_)
  · simp only [ex2_0, ex2_1, and_self]
    unfold s33_p1
    have r3 := hk3.row r2 hnr
    refine nk0 (fdp (st1_r r3 (show 1 < 2 by decide) rfl fun w4 r4 hk4 hz4 => ?_))
    replace r4 : Row w4 r 47 [P j 0, .pointer none] := r4
    obtain ⟨eb, s, rfl, re⟩ := id her
    have her4 : Er w4 (.iface 155 (P eb 0)) (opnS park J).2.2 := ⟨eb, s, rfl, hk4.row re (fun (q : eb = r) => row_ne re r3 (by decide) q)⟩
    refine codeOf_ok her4 ?_
    have hMr3 : M3 r := hx3.sub r hMr
    have no3 : ∀ b, OwnJ j lob3 b → ¬ b = r := fun b q e => by
      subst e
      obtain ⟨sv, lv, rj, hs, evs, s1, s2, _⟩ := jn3.ex
      rcases q with q | q
      · exact row_ne r3 rj (by decide) q
      · obtain ⟨l', hl'⟩ := s1.row q
        exact row_ne r3 hl' (by decide) rfl
    have jn4 := jn3.ext (Ext.same jn3.lt hk4) hk4 (fun b (q : b = r) _ => q ▸ hMr3) no3
    have kAll : Kp (fun c => ¬ V c) w w4 := (((kd.trans hk2).none.trans (hk3.mono fun b _ q hVb => (hV b hVb).2.1 q)).trans (hk4.mono fun b _ (q : b = r) hVb => (hV b hVb).2.2 q))
    refine hK w4 _ _ g1 (.inl ⟨⟨M3, j, lob3, jn4, ⟨r4, hMr3⟩, fun b q => ?_, fun c hc => ⟨hx3.sub c (hV c hc).1, fun q => ?_, (hV c hc).2.2⟩⟩, ?_, z.r0⟩) kAll
    · rcases hx3.new b q with q | q
      · exact hM b q
      · omega
    · rcases q with q | q
      · exact (hV c hc).2.1 (.inl q)
      · rcases ho3 c q with q2 | q2
        · exact (hV c hc).2.1 (.inr q2)
        · have := h.lt c (hV c hc).1; omega
    · exact ((z1.k.trans hk2).then hk3 fun b hb q => by have := own0 b q; omega).then hk4 fun b hb (q : b = r) => by have := z.r0; omega
  · simp only [ex2_0, ex2_1, and_self]
    unfold s33_p1
    have r3 := hk3.row r2 hnr
    refine nk0 (fdp (st1_r r3 (show 1 < 2 by decide) rfl fun w4 r4 hk4 hz4 => ?_))
    replace r4 : Row w4 r 47 [P j 0, P e 0] := r4
    refine codeOf_nil ?_
    have hMr3 : M3 r := hx3.sub r hMr
    have nown := he3.nRig r3
    have h4 := he3.ext (Ext.same he3.lt hk4) hk4 (fun b (q : b = r) _ => q ▸ hMr3) fun b q (q2 : b = r) => nown (q2 ▸ q)
    have kAll : Kp (fun c => ¬ V c) w w4 := (((kd.trans hk2).none.trans (hk3.mono fun b _ q hVb => (hV b hVb).2.1 q)).trans (hk4.mono fun b _ (q : b = r) hVb => (hV b hVb).2.2 q))
    refine hK w4 _ _ g1 (.inr ⟨e, σ', ⟨⟨M3, m, h4, ⟨by rw [hmj]; exact r4, hMr3⟩, fun b q => ?_, fun c hc => ⟨hx3.sub c (hV c hc).1, fun q => ?_, (hV c hc).2.2⟩⟩, ?_, z.r0⟩, g2 σ' hs⟩) kAll
    · rcases hx3.new b q with q | q
      · exact hM b q
      · omega
    · rcases hown c q with q2 | q2
      · exact (hV c hc).2.1 q2
      · have := h.lt c (hV c hc).1; omega
    · exact ((z1.k.trans hk2).then hk3 fun b hb q => by have := own0 b q; omega).then hk4 fun b hb (q : b = r) => by have := z.r0; omega
/-- the power goes, comes back, and an engine is opened -/
theorem reopen_ok (z : La W V w r x J) (g : GJ k J) (hk : 0 ≤ k) (hps : scal p.2 = true) (hpa : p.1.after ≤ 9223372036854775807)
    (hK : ∀ w' v' J', GJ k J' → (La W V w' r (.pointer none) J' ∨ ∃ e σ, Le W V w' r e σ J' ∧ GS k σ) → Kp (fun c => ¬ V c) w w' → K v' w') : cl Tryz.prog 33 #[P r 0, .agg (opC p).toArray] K w := by
  apply c33
  unfold s33_p7
  refine nw_r fun w1 r1 hk1 hz1 => ?_
  replace r1 : Row w1 w.heap.size 39 (opC p) := r1
  have z1 := z.emp hk1
  -- from the restart on
  have p4 : ∀ (w2 : World) (J2 : Jr), La W V w2 r x J2 → GJ k J2 → Row w2 w.heap.size 39 (opC p) → Kp (fun c => ¬ V c) w w2 → s33_p4 K (P r 0) (P w.heap.size 0) w2 := by
    intro w2 J2 z2 gj2 rp2 kk2
    obtain ⟨M, j, lob, h, ⟨hr, hMr⟩, hM, hV⟩ := z2.ex
    obtain ⟨sv, lv, rj, _⟩ := h.ex
    have hWz := z2.k.size
    have hj0 := hM j h.mj
    have njr : ¬ r = j := fun q => row_ne hr rj (by decide) q
    have njp : ¬ w.heap.size = j := fun q => row_ne rp2 rj (by decide) q
    unfold s33_p4
    refine nk0 (fdp (ld1_r (v := P j 0) hr rfl ?_))
    refine restart_ok h fun w3 h3 hk3 hz3 => ?_
    have z3 : La W V w3 r x { J2 with off := false } := ⟨⟨M, j, lob, h3, ⟨hk3.row hr njr, hMr⟩, hM, hV⟩, z2.k.then hk3 fun b hb (q : b = j) => by omega, z2.r0⟩
    have gj3 : GJ k { J2 with off := false } := gj2.log (log := J2.log) (fun _ q => q) (Nat.le_refl _) (Nat.le_refl _)
    have rp3 := hk3.row rp2 njp
    unfold s33_p3 s33_p3_d
    have kd : Kp Emp w3 (drw w3) := kp_drw
    generalize drw w3 = w4 at kd ⊢
    have z4 := z3.emp kd
    have rp4 := kd.row' rp3
    refine nk0 (fdp ?_)
    obtain ⟨j', hrow, harm⟩ := La.arm (a := p.1.after) (b := p.1.keep) (X := fun w => s33_p2 K (P r 0) w) hpa z4 fun w5 z5 hk5 => by
      refine reopen_2 z5 (gj3.arm _ _) hk fun w6 v6 J6 g6 s6 hk6 => ?_
      exact hK w6 v6 J6 g6 s6 ((((kk2.trans (hk3.mono fun b _ (q : b = j) hVb => (hV b hVb).2.1 (.inl q))).trans kd.none).trans hk5).trans hk6)
    refine ld1_r (v := P j' 0) hrow rfl ?_
    refine fdp (ld1_r (v := I p.1.after) rp4 rfl ?_)
    refine fdp (ld1_r (v := I p.1.keep) rp4 rfl ?_)
    exact harm
  obtain ⟨M, j, lob, h, ⟨hr, hMr⟩, hM, hV⟩ := id z1.ex
  obtain ⟨sv, lv, rj, _⟩ := h.ex
  have hWz := z1.k.size
  have hj0 := hM j h.mj
  have njr : ¬ r = j := fun q => row_ne hr rj (by decide) q
  have njp : ¬ w.heap.size = j := fun q => row_ne r1 rj (by decide) q
  refine nk0 (fdp (ld1_r (v := P j 0) hr rfl ?_))
  refine nk0 (fdp (ld1_r (v := .bool J.off) rj rfl ?_))
  simp only [e_not]
  unfold s33_p6
  cases ho : J.off with
  | true =>
    simp only [Bool.not_true, e_iff]
    exact p4 w1 J z1 g r1 hk1.none
  | false =>
    simp only [Bool.not_false, e_ift]
    unfold s33_p5 s33_p5_d
    have kd : Kp Emp w1 (drw w1) := kp_drw
    generalize drw w1 = w2 at kd ⊢
    refine nk0 (fdp (ld1_r (v := P j 0) (kd.row' hr) rfl ?_))
    refine fdp (ld1_r (v := I p.1.keep) (kd.row' r1) rfl ?_)
    refine fail_ok (h.kp' kd) fun w3 h3 hk3 hz3 => ?_
    refine p4 w3 _ ⟨⟨M, j, lob, h3, ⟨hk3.row (kd.row' hr) njr, hMr⟩, hM, hV⟩, (z1.k.trans kd).then hk3 fun b hb (q : b = j) => by omega, z1.r0⟩ (g.fail _) (hk3.row (kd.row' r1) njp) ?_
    exact (hk1.trans kd).none.trans (hk3.mono fun b _ (q : b = j) hVb => (hV b hVb).2.1 (.inl q))
/-- the rig answers questions while it is up -/
theorem Le.srv (g : GS k σ) (hk : k ≤ 1000000) (hd : σ.down = false) : Srv W (sendV r) (ansE σ J) (fun V w => ∃ σ', Le W V w r e σ' J ∧ Core σ σ' ∧ σ'.down = false ∧ σ'.loose = 0 ∧ σ'.tail = σ.tail) where
  k := fun ⟨σ', z, c⟩ => z.k
  lt := fun ⟨σ', z, c⟩ => z.lt
  gro := fun ⟨σ', z, c⟩ hk hS => ⟨σ', z.gro hk hS, c⟩
  sub := fun ⟨σ', z, c⟩ hV => ⟨σ', z.sub hV, c⟩
  len := fun q => by
    refine eR_len ?_ (hndS_cnt park (enc q) σ J)
    have hrp := stbS_rpn (J := J) (bs := enc q) park_cv (by decide) g.g
    unfold hndS
    simp only
    split
    · exact hrp
    · exact RpN.rf ⟨by decide, by decide⟩
  call := by
    intro V F w v q K ⟨σ', z, c, d1, d2, d3⟩ hq ha hF hK
    have g0 := g.g hd
    have g' : GS k σ' := ⟨fun _ => c.gd g0, fun _ => d2, by rw [c.seq]; exact g.s, by rw [d3]; exact g.t, by rw [d2]; have := g.l; omega⟩
    obtain ⟨a1, a2, a3, a4, a5, a6⟩ := ask_up (J := J) d1 d2 hq
    have b1 := (ask_up (J := J) hd (g.lo hd) hq).1
    have ea : ansE σ J q = eR (ansQ park σ' q) := by
      unfold ansE
      rw [b1, ansQ_core c]
    refine ⟨okSend, ?_⟩
    show cl Tryz.prog 24 #[P r 0, v] K w
    refine z.send g' hk ha hF hq.by_ fun w1 v1 b1 S z1 sl1 hb1 hk1 hS hW => ?_
    rw [a2] at z1
    rw [a1, ← ea] at sl1
    exact hK w1 v1 b1 S ⟨_, z1, c.trans a3, a4, a5, by rw [a6, d3]⟩ sl1 hb1 hk1 hS hW
theorem ansE_up (g : GS k σ) (hd : σ.down = false) : ∀ q, QOk q → ansE σ J q = eR (ansQ park σ q) := fun q hq => by
  unfold ansE
  rw [(ask_up (J := J) hd (g.lo hd) hq).1]
end
end Go.Proofs.Qxb6500896aGreat
