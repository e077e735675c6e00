import Derived.Test.Qxb6500896aGreatDoorE5
namespace Go.Proofs.Qxb6500896aGreatDoor
open Go.Sh Go.RowKit
set_option linter.unusedVariables false
set_option linter.unusedSimpArgs false

theorem hnd_rpn' {σ : Sg} {J : Jr} {bs : List Int} (g : σ.down = false → SGd park σ) : RpN (hndS park bs σ J).2.2 := by
  have hrp := stbS_rpn (J := J) (bs := bs) park_cv (by decide) g
  unfold hndS
  simp only
  split
  · exact hrp
  · exact RpN.rf ⟨by decide, by decide⟩
theorem hnd_len' {σ : Sg} {J : Jr} {bs : List Int} (g : σ.down = false → SGd park σ) : (eR (hndS park bs σ J).2.2).length ≤ 1000000000 := eR_len (hnd_rpn' g) (hndS_cnt park bs σ J)
section
variable {W w w' w0 w1 : World} {V V' S F : Nat → Prop} {r e c gb b9 b10 : Nat} {σ σ' : Sg} {J J' : Jr} {K : Value → World → Prop} {B1 : List Value → World → Prop} {v bv av t9 t10 t11 t30 t31 t32 lv : Value} {bs : List Int} {k k' : Int} {B : List Rec} {ns : List Int} {xs : List Op} {l9 : List Value} {q : Rq} {idv code : Int}
theorem Cs.on2 (h : Cs W V w r c gb J k B bv ns) (rg : Rg2 W V' w' r J' k' B) (gj : GJ k' J') (hV : ∀ b, V b → V' b) (ky : Ky V w w') : Cs W V' w' r c gb J' k' B bv ns := by
  obtain ⟨S, kk, q⟩ := ky
  obtain ⟨its, e1, e2, e3⟩ := h.hb
  exact ⟨rg, gj, hV _ h.vc, hV _ h.vg, kk.row h.rc (q _ h.vc), ⟨its, e1, (e2.kp kk fun b hb => q b hb.1).mono fun b hb => ⟨hV b hb.1, hb.2⟩, fun p hp => ((e3 p hp).kp kk fun b hb => q b hb.1).mono fun b hb => ⟨hV b hb.1, hb.2⟩⟩, h.st, h.len, h.mp.kp kk (q _ h.vg), h.ns⟩
theorem RgD.reop (h : RgD (fun s => Rel B s.rs) J) (op : Op) : RgD (fun s => Rel B s.rs) (reopJ J op) := by
  unfold reopJ
  refine RgD.arm ?_ _ _
  split
  · exact h.flags (o := false) (l := J.left) (k := J.keep)
  · exact (h.fail op.keep).flags (o := false) (l := (failJ J op.keep).left) (k := (failJ J op.keep).keep)
/-- the tail of a step: what may follow it -/
abbrev Nxt (W : World) (r c gb : Nat) (k : Int) (K : Value → World → Prop) (B1 : List Value → World → Prop) (t30 t31 t32 : Value) : Prop :=
  ∀ w' V' J' B' bv' ns', Cs W V' w' r c gb J' k B' bv' ns' ∧ Rg3 W V' w' r J' k B' → s3_p2 K B1 (P r 0) (P c 0) bv' (.map (some gb)) t30 t31 t32 w'
set_option maxHeartbeats 4000000 in
/-- a request -/
theorem p10_ok {b8 : Nat} {l8 l9z l10z : List Value} {V0 : Nat → Prop} {w0 : World} (hG : Gm W) (hk : 0 ≤ k ∧ k ≤ 999999) (h0 : Cs W V0 w0 r c gb J k B bv ns) (hV0 : ∀ b, V0 b → V b) (ky0 : Ky V0 w0 w) (rg : Rg3 W V w r J k B)
    (r8 : Row w b8 37 l8) (v8 : V b8) (h81 : l8[1]? = some v) (r9 : Row w b9 46 l9z) (l9l : l9z.length = 34) (v9 : V b9) (n9 : ¬ V0 b9) (r10 : Row w b10 49 l10z) (l10l : l10z.length = 8) (v10 : V b10) (n10 : ¬ V0 b10) (n910 : b9 ≠ b10)
    (hv : Ar bC 1 (fun b => b < W.heap.size) W v bs) (hB : By bs) (next : Nxt W r c gb (k + 1) K B1 t30 t31 t32) :
    s3_p10 K B1 (P r 0) (P c 0) bv (.map (some gb)) (P b8 0) (P b9 0) (P b10 0) (.bool false) t30 t31 t32 w := by
  unfold s3_p10
  refine fdp (ld1_r (v := v) r8 h81 ?_)
  have hkW := rg.two.kp0
  have hWz := hkW.size
  have hk1 : k ≤ k + 1 := by omega
  -- after a step that leaves no answer
  have p9f : ∀ (w' : World) (V' : Nat → Prop) (J' : Jr), Rg2 W V' w' r J' (k + 1) B → GJ (k + 1) J' → (∀ b, V b → V' b) → Ky V w w' → s3_p9 K B1 (P r 0) (P c 0) bv (.map (some gb)) (P b9 0) (P b10 0) (.bool false) t30 t31 t32 w' := fun w' V' J' rg' gj' hV' ky' =>
    p9_no hG (by omega) (h0.on2 rg' gj' (fun b q => hV' b (hV0 b q)) (ky0.trans ky' hV0)) fun w2 V2 B2 bv2 h2 => next w2 V2 J' B2 bv2 ns h2
  rcases rg with ⟨e, σ, z, g, hd, hq, hl, rfl⟩ | ⟨⟨e, σ, z, g, hd⟩ | z, d⟩
  · have hs := g.s
    refine z.send g (by omega) (hv.kp' hkW) (fun b q => by omega) hB fun w2 v2 b2 S2 z2 sl2 hb2 hk2 hS2 hW2 => ?_
    obtain ⟨g2, j2⟩ := hnd_keep (bs := bs) h0.gj g (by omega)
    have hpn := hnd_rpn' (bs := bs) (J := J) g.g
    have hpx := hnd_rpx (bs := bs) (J := J) (σ := σ) g.g
    have hpl := hnd_len' (bs := bs) (J := J) g.g
    have hcnt := hndS_cnt park bs σ J
    have hstep := cons_step (bs := bs) hq hB (by omega)
    generalize hx : hndS park bs σ J = x at z2 sl2 hpn hpx hpl hcnt g2 j2 hstep
    obtain ⟨σ2, J2, p⟩ := x
    simp only at z2 sl2 hpn hpx hpl hcnt g2 j2 hstep
    have ky2 : Ky V w w2 := Ky.of hk2 hS2
    refine z2.up ?_
    rcases hstep with ⟨d2, q2, l2, rel2, hnew, hreb⟩ | ⟨d2, q2⟩
    · rw [d2]
      simp only [Bool.not_false, e_ift]
      refine fdp (ld1_r (v := v) (ky2.row v8 r8) h81 ?_)
      have s2 := hk2.size
      have hvv := hv.kp' z2.k
      refine dec_ok hvv hB (fun b q => by omega) fun w3 l3 hk3 hq3 => ?_
      obtain ⟨lv3, rfl, hl3⟩ := hq3
      simp only [ex2_0, ex2_1]
      have hltV := z.lt
      have hb9 := hltV b9 v9
      have hb10 := hltV b10 v10
      have r10_3 := hk3.row' (ky2.row v10 r10)
      refine stn_r (cs := (dec bs).1.cells lv3) r10_3 rfl (by rw [l10l]; decide) (by unfold Rq.cells; simp only [List.all_cons, List.all_nil, hl3.scal]; rfl) fun w4 r4 hk4 hz4 => ?_
      rw [List.take_zero, List.nil_append, Nat.zero_add, List.drop_of_length_le (by rw [l10l]; exact Nat.le_refl _), List.append_nil] at r4
      have s3 := hk3.size
      have z3 := z2.gro (S := Emp) hk3 fun b q => q.elim
      have z4 := z3.gro hk4 fun b (q : b = b10) => .inl (.inl (q ▸ v10))
      have b2lt := sl2.lt
      have sl4 := (sl2.kp' hk3).kp hk4 fun b e (q : b = b10) => by cases e; omega
      refine decR_ok (sl4.arb (by omega)) (eR_by' hpn) (fun b (q : b = b2) => by omega) (by omega) fun w5 l5 hk5 hv5 => ?_
      rw [decR_eR hpn hpx hcnt] at hv5 ⊢
      simp only [ex2_0, ex2_1]
      have hl34 := hv5.len
      have r9_5 : Row w5 b9 46 l9z := hk5.row' (hk4.row (hk3.row' (ky2.row v9 r9)) fun (q : b9 = b10) => n910 q)
      refine stn_r (cs := l5) r9_5 hl34 (by rw [l9l]; decide) hv5.sc fun w6 r6 hk6 hz6 => ?_
      rw [List.take_zero, List.nil_append, Nat.zero_add, List.drop_of_length_le (by rw [l9l]; exact Nat.le_refl _), List.append_nil] at r6
      simp only [e_not, Bool.not_true, e_iff]
      have z5 := z4.gro (S := Emp) hk5 fun b q => q.elim
      have z6 := z5.gro hk6 fun b (q : b = b9) => .inl (.inl (.inl (.inl (q ▸ v9))))
      have s5 := hk5.size
      -- the blocks that were there before
      have kyA : Ky V0 w w6 := by
        refine ⟨fun b => S2 b ∨ b = b10 ∨ b = b9, ?_, fun b hb q => ?_⟩
        · exact (((((hk2.mono fun b _ q => .inl q).trans hk3.none).trans (hk4.mono fun b _ (q : b = b10) => .inr (.inl q))).trans hk5.none).trans (hk6.mono fun b _ (q : b = b9) => .inr (.inr q)))
        · rcases q with q | q | q
          · exact hS2 b (hV0 b hb) q
          · exact n10 (q ▸ hb)
          · exact n9 (q ▸ hb)
      have hC := h0.on2 (J' := J2) (k' := k + 1) (.inl ⟨e, σ2, z6, g2, d2, q2, l2, rel2⟩) j2 (fun b q => .inl (.inl (.inl (.inl (.inl (hV0 b q)))))) (ky0.trans kyA fun _ q => q)
      obtain ⟨iv5, rv5, wv5, el5, hi5, hr5, hw5, hc5⟩ := id hv5
      have ecode : (nrm p).code = p.code := by
        by_cases q : p.code = 0
        · obtain ⟨e1, e2, e3⟩ := nrm_co q
          rw [e1, e2, q]
        · unfold nrm; rw [if_neg q]
      have c0 : l5[0]? = some (I p.code) := by
        rw [el5]
        show some (I (nrm p).code) = _
        rw [ecode]
      have c2 : l5[2]? = some (I (nrm p).id) := by rw [el5]; rfl
      have r10_6 : Row w6 b10 49 ((dec bs).1.cells lv3) := hk6.row (hk5.row' r4) fun (q : b10 = b9) => n910 q.symm
      have hl6 := ((hl3.kp hk4 fun b hb (q : b = b10) => by have := hb.1; omega).kp' hk5).kp hk6 fun b hb (q : b = b9) => by have := hb.1; omega
      refine p9_yes hG (by omega) hC z6 g2 d2 q2 l2 rel2 r6 (.inl (.inl (.inl (.inl (.inl v9))))) c0 c2 r10_6 (.inl (.inl (.inl (.inl (.inl v10))))) (hl6.mono fun b hb => .inl (.inl (.inl (.inr hb)))) hnew hreb fun w7 V7 B7 bv7 ns7 h7 => next w7 V7 J2 B7 bv7 ns7 h7
    · rw [d2]
      simp only [Bool.not_true, e_iff]
      exact p9f w2 _ J2 (.inr ⟨.inl ⟨e, σ2, z2, g2, d2⟩, q2⟩) j2 (fun b q => .inl q) ky2
  · refine z.send g (by omega) (hv.kp' hkW) (fun b q => by omega) hB fun w2 v2 b2 S2 z2 sl2 hb2 hk2 hS2 hW2 => ?_
    obtain ⟨g2, j2⟩ := hnd_keep (bs := bs) h0.gj g (by omega)
    obtain ⟨e1, e2⟩ := hnd_dn (bs := bs) (J := J) hd
    rw [e2] at z2 j2
    refine z2.up ?_
    rw [e1]
    simp only [Bool.not_true, e_iff]
    exact p9f w2 _ J (.inr ⟨.inl ⟨e, _, z2, g2, e1⟩, d⟩) j2 (fun b q => .inl q) (Ky.of hk2 hS2)
  · refine z.send fun w2 v2 hk2 => ?_
    have z2 := z.emp hk2
    refine z2.up ?_
    simp only [e_iff]
    exact p9f w2 _ J (.inr ⟨.inr z2, d⟩) (h0.gj.mono hk1) (fun b q => q) (Ky.of hk2 fun _ _ q => q)
end
end Go.Proofs.Qxb6500896aGreatDoor
