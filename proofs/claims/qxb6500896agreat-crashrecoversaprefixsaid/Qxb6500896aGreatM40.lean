import Derived.Test.Qxb6500896aGreatM39
namespace Go.Proofs.Qxb6500896aGreat
open Go.Sh Go.RowKit
set_option linter.unusedVariables false
set_option linter.unusedSimpArgs false

section
variable {O G F S V V' N Fr : Nat → Prop} {W w w' w0 w1 : World} {r e m b1 b2 e2 rb o8 : Nat} {v v1 v2 qv fv x t4 t5 t6 t9 t10 t25 t26 t27 : Value} {l : List Value} {K : Value → World → Prop} {B1 : List Value → World → Prop} {σ σ' σ2 c : Sg} {J J' J2 : Jr} {bs : List Int} {bss inF outs : List (List Int)} {q : Rq} {X : World → Prop} {k k' : Int} {ob obq obf : Option Nat} {vals qvals fvals : List Value} {op : Op × Value} {xs : List Op}
/-- a failure is armed -/
theorem arm_9 (h : CS W r m k J inF V w) (r8 : Row w o8 39 (opC op)) (hpa : op.1.after ≤ 9223372036854775807)
    (next : ∀ w', CS W r m k (armJ J op.1.after op.1.keep) inF V w' → Stay V w w' → s6_p2 K B1 (P r 0) (P m 0) t5 t6 t25 t26 t27 w') : s6_p9 K B1 (P r 0) (P m 0) t5 t6 (P o8 0) t25 t26 t27 w := by
  unfold s6_p9 s6_p9_d
  have kd : Kp Emp w (drw w) := kp_drw
  generalize drw w = w1 at kd ⊢
  have h1 := h.emp kd
  have r81 := kd.row' r8
  have st1 : Stay V w w1 := Kp.stay (V := V) kd fun _ _ q => q
  have go : ∀ {j : Nat} {x : Value}, Row w1 r 47 [P j 0, x] → cl Tryz.prog 32 #[P j 0, I op.1.after, I op.1.keep] (fun _ w => s6_p2 K B1 (P r 0) (P m 0) t5 t6 t25 t26 t27 w) w1 → nck (P r 0) (fun t111 _ => fd 0 t111 (fun t112 _ => ld1 t112 (fun t113 _ => fd 2 (P o8 0) (fun t114 _ => ld1 t114 (fun t115 _ => fd 3 (P o8 0) (fun t116 _ => ld1 t116 (fun t117 _ => cl Tryz.prog 32 #[t113, t115, t117] (fun t118 w => s6_p2 K B1 (P r 0) (P m 0) t5 t6 t25 t26 t27 w) w1) w1) w1) w1) w1) w1) w1) w1 := fun {j x} hr hcl => by
    refine nk0 (fdp (ld1_r (v := P j 0) hr rfl ?_))
    refine fdp (ld1_r (v := I op.1.after) r81 rfl ?_)
    refine fdp (ld1_r (v := I op.1.keep) r81 rfl ?_)
    exact hcl
  rcases h1 with ⟨⟨e, σ, ⟨O, G, zl, mo, hdj⟩, hd, gs, rq⟩, hinf⟩ | ⟨c, g, rd, hr⟩
  · obtain ⟨j, hr, hcl⟩ := zl.arm (a := op.1.after) (b := op.1.keep) (X := fun w => s6_p2 K B1 (P r 0) (P m 0) t5 t6 t25 t26 t27 w) hpa fun w2 z2 hk2 => next w2 (.inl ⟨⟨e, σ, ⟨O, G, z2, mo.kp hk2 fun b q => ⟨fun r => q (.inr (.inl r)), fun r => q (.inr (.inr r))⟩, hdj⟩, hd, gs, rq.arm2 _ _⟩, hinf⟩) (st1.trans (Kp.stay (V := V) hk2 fun d q r => r (.inl q)) fun d q => q)
    exact go hr hcl
  · rcases hr with ⟨e, σ, ⟨O, G, zl, mo, hdj⟩, hd, gs⟩ | ⟨O, G, zl, mo, hdj⟩
    · obtain ⟨j, hr, hcl⟩ := zl.arm (a := op.1.after) (b := op.1.keep) (X := fun w => s6_p2 K B1 (P r 0) (P m 0) t5 t6 t25 t26 t27 w) hpa fun w2 z2 hk2 => next w2 (.inr ⟨c, g, rd.arm _ _, .inl ⟨e, σ, ⟨O, G, z2, mo.kp hk2 fun b q => ⟨fun r => q (.inr (.inl r)), fun r => q (.inr (.inr r))⟩, hdj⟩, hd, gs⟩⟩) (st1.trans (Kp.stay (V := V) hk2 fun d q r => r (.inl q)) fun d q => q)
      exact go hr hcl
    · obtain ⟨j, hr, hcl⟩ := zl.arm (a := op.1.after) (b := op.1.keep) (X := fun w => s6_p2 K B1 (P r 0) (P m 0) t5 t6 t25 t26 t27 w) hpa fun w2 z2 hk2 => next w2 (.inr ⟨c, g, rd.arm _ _, .inr ⟨O, G, z2, mo.kp hk2 fun b q => ⟨fun r => q (.inr (.inl r)), fun r => q (.inr (.inr r))⟩, hdj⟩⟩) (st1.trans (Kp.stay (V := V) hk2 fun d q r => r (.inl q)) fun d q => q)
      exact go hr hcl
theorem rgq0 : RgQ (Core (sg0 park)) (sg0 park) (jr0 48 72 1200) := by
  refine ⟨Gd.zero park_cv, rfl, rfl, rfl, Nat.le_refl _, rfl, ⟨(fun x hx => by cases hx), (fun x hx => by cases hx), by simp [jr0]⟩, fun n a b => ⟨sg0 park, ?_, Core.refl _, fun _ => Core.refl _⟩⟩
  have : opn1 park (jr0 48 72 1200) = some (sg0 park) := rfl
  rw [← this]
  exact opn1_eq rfl rfl (by show ([] : List (List Int)).take n = []; simp)
set_option maxHeartbeats 4000000 in
theorem crash_walk (hs : Scr W v xs) : cl Tryz.prog 6 #[v] (fun e W' => e = .bool true ∧ Below W.heap.size W W') W := by
  apply c6
  unfold s6_p25
  refine small_ok hs (Kp.refl _ _) fun rr hr => ?_
  cases rr with
  | false =>
    simp only [Bool.not_false, e_not, e_ift]
    exact ⟨trivial, (Kp.refl _ _).below'⟩
  | true =>
    obtain ⟨hxl, hbl⟩ := hr rfl
    simp only [Bool.not_true, e_not, e_iff]
    refine pj_ok2 fun w1 hk1 => ?_
    refine newRigF_ok (a := 48) (b := 72) (c := 1200) ⟨by decide, by decide⟩ hk1 fun w2 r e z2 hk2 => ?_
    refine park_ok fun w3 l3 hk3 hc3 => ?_
    refine newM_ok hc3 (fun b q => q.2) fun w4 m mo4 hk4 => ?_
    have z4 : Le W (fun b => (none = some b ∨ none = some b) ∨ Nb w3 w4 b ∨ Nb w2 w3 b) w4 r e (sg0 park) (jr0 48 72 1200) := (z2.gro (S := Emp) (hk3.trans hk4) fun b q => q.elim).sub fun b q => by
      have s3 := hk3.size
      have s4 := hk4.size
      rcases q with (q | q) | q | q
      · cases q
      · cases q
      · exact .inr ⟨by have := q.1; omega, q.2⟩
      · exact .inr ⟨q.1, by have := q.2; omega⟩
    obtain ⟨its, i1, i2, i3⟩ := hs
    have hil : its.length = xs.length := by rw [← i1, List.length_map]
    have hbl' : ∀ p ∈ its, p.1.bs.length ≤ 65536 := fun p hp => hbl _ (by rw [← i1]; exact List.mem_map_of_mem hp)
    refine i2.ln ?_
    unfold s6_p24
    refine loop_n its.length (fun i l w' => ∃ J k obq qv qvals qb obf fv fvals inF, l = [P r 0, P m 0, qv, fv, v, I (its.length : Nat), I (i : Nat)] ∧ CS W r m k J inF (fun b => obq = some b ∨ obf = some b) w' ∧ GJ k J ∧ 0 ≤ k ∧ Qu W w' obq qv qvals qb ∧ Qu W w' obf fv fvals inF ∧ (∀ b, obq = some b → obf ≠ some b) ∧ k + ((qb.length : Nat) : Int) ≤ ((i : Nat) : Int) ∧ inF.length ≤ 100000 ∧ (inF = [] → fv = nilS)) ⟨jr0 48 72 1200, 0, none, nilS, [], [], none, nilS, [], [], rfl, .inl ⟨⟨e, sg0 park, ⟨_, _, z4, mo4, fun b q => by rcases q with q | q <;> cases q⟩, rfl, gs0, rgq0⟩, rfl⟩, gj0, Int.le_refl _, Qu.nil, Qu.nil, (fun b q => by cases q), by simp, by simp, fun _ => rfl⟩ ?_ ?_
    · rintro i l w5 hi ⟨J, k, obq, qv, qvals, qb, obf, fv, fvals, inF, rfl, h5, gj5, hk0, q5, f5, hne, hkq, hfl, hfe⟩ B hB
      have hlt := h5.lt
      rw [s6_p24_Fe]
      unfold s6_p23
      have hp := i3 _ (List.getElem_mem hi)
      have hbi := hbl' _ (List.getElem_mem hi)
      simp only [dlt hi, e_lss, e_ift]
      unfold s6_p22
      refine each_r rfl (i2.kp' h5.k0) hi (opC_len _) (by simp only [opC, List.all_cons, List.all_nil, hp.1.scal]; rfl) fun w6 r6 hk6 hz6 => ?_
      have h6 := (h5.gro (S := Emp) hk6 fun b q => q.elim).sub (V' := fun b => (obq = some b ∨ obf = some b) ∨ b = w5.heap.size) fun b q => q.imp id fun q => ⟨by omega, by omega⟩
      have q6 := q5.kp hk6 fun _ _ q => q
      have f6 := f5.kp hk6 fun _ _ q => q
      have hne8 : obq ≠ some w5.heap.size := fun q => by have := hlt _ (.inl q); omega
      have hps := hp.1.scal
      generalize its[i] = op at hp hbi r6 hps ⊢
      have next : ∀ {w' : World} {V' : Nat → Prop} {J' : Jr} {k' : Int} {obq' : Option Nat} {qv' : Value} {qvals' : List Value} {qb' : List (List Int)} {obf' : Option Nat} {fv' : Value} {fvals' : List Value} {inF' : List (List Int)}, CS W r m k' J' inF' V' w' → (∀ b, obq' = some b ∨ obf' = some b → V' b) → GJ k' J' → 0 ≤ k' → Qu W w' obq' qv' qvals' qb' → Qu W w' obf' fv' fvals' inF' → (∀ b, obq' = some b → obf' ≠ some b) → k' + ((qb'.length : Nat) : Int) ≤ ((i + 1 : Nat) : Int) → inF'.length ≤ 100000 → (inF' = [] → fv' = nilS) → s6_p2 (fun e W' => e = .bool true ∧ Below W.heap.size W W') B (P r 0) (P m 0) qv' fv' v (I (its.length : Nat)) (I (i : Nat)) w' := fun {w' V' J' k' obq' qv' qvals' qb' obf' fv' fvals' inF'} h' hV' gj' hk0' q' f' hne' hkq' hfl' hfe' => by
        unfold s6_p2
        simp only [e_add]
        rw [inc i (by omega)]
        exact hB _ _ ⟨J', k', obq', qv', qvals', qb', obf', fv', fvals', inF', rfl, h'.sub hV', gj', hk0', q', f', hne', hkq', hfl', hfe'⟩
      refine fdp (ld1_r (v := I op.1.kind) r6 rfl ?_)
      unfold s6_p21
      simp only [e_eql]
      unfold s6_p20
      cases hk4 : (op.1.kind == 4) with
      | true =>
        simp only [e_ift]
        unfold s6_p3
        refine fdp (ld1_r (v := op.2) r6 rfl ?_)
        refine q6.add hp.1 hp.2.1 hbi (by omega) fun w7 v7 ob7 q7 hk7 ho7 => ?_
        have h7 := h6.gro hk7 fun b q => .inl (.inl q)
        have f7 := f6.kp hk7 fun b e q => hne b q e
        have hob7 : ∀ b, ob7 = some b → (obq = some b ∨ Nb w6 w7 b) := fun b q => by
          rcases ho7 with e | ⟨c, e, hc⟩
          · rw [e] at q; exact .inl q
          · rw [e] at q
            have q := Option.some.inj q
            subst q
            have sl7 := q7.sl
            rw [e] at sl7
            exact .inr ⟨hc, sl7.lt⟩
        refine next h7 (fun b q => ?_) gj5 hk0 q7 f7 (fun b q r => ?_) (by rw [List.length_append]; simp only [List.length_singleton]; omega) hfl hfe
        · rcases q with q | q
          · rcases hob7 b q with q | q
            · exact .inl (.inl (.inl q))
            · exact .inr q
          · exact .inl (.inl (.inr q))
        · rcases hob7 b q with q | q
          · exact hne b q r
          · have := hlt b (.inr r); have := q.1; omega
      | false =>
        simp only [e_iff]
        unfold s6_p19
        simp only [e_eql]
        unfold s6_p18
        cases hk0' : (op.1.kind == 0) with
        | true =>
          simp only [e_ift]
          refine send_8 h6 gj5 hk0 q6 f6 hne (fun b q => .inl (.inl q)) (fun b q => .inl (.inr q)) (.inr rfl) hne8 r6 hp.1 hp.2.1 hbi (by omega) hfl hfe fun w' J' k' inF' obf' fv' fvals' V' h' hV' f' gj' hk0'' hk' hfl' hfe' => ?_
          exact next (obq' := none) (qvals' := []) (qb' := []) h' (fun b q => q.elim (fun q => by cases q) (hV' b)) gj' hk0'' Qu.nil f' (fun b q => by cases q) (by simp only [List.length_nil]; omega) hfl' hfe'
        | false =>
          simp only [e_iff]
          unfold s6_p17
          simp only [e_eql]
          unfold s6_p16
          cases hk1' : (op.1.kind == 1) with
          | true =>
            simp only [e_ift]
            refine arm_9 h6 r6 hp.2.2 fun w' h' st' => ?_
            exact next h' (fun b q => .inl q) (gj5.arm _ _) hk0 (Stay.qu q6 (fun b q => .inl (.inl q)) st') (Stay.qu f6 (fun b q => .inl (.inr q)) st') hne (by omega) hfl hfe
          | false =>
            simp only [e_iff]
            unfold s6_p15
            simp only [e_eql]
            unfold s6_p14
            cases hk2' : (op.1.kind == 2) with
            | true =>
              simp only [e_ift]
              refine reop_13 h6 gj5 hk0 (by omega) f6 (fun b q => .inl (.inr q)) hfl hfe r6 hps hp.2.2 fun w' J' inF' obf' fv' fvals' V' h' hV' hVf' hdis f' gj' st' hfl' hfe' => ?_
              refine next h' (fun b q => ?_) gj' hk0 (Stay.qu q6 (fun b q => .inl (.inl q)) st') f' (fun b q r => ?_) (by omega) hfl' hfe'
              · rcases q with q | q
                · exact hV' b (.inl (.inl q))
                · exact hVf' b q
              · rcases hdis with e | e
                · rw [e] at r; cases r
                · rw [e] at r; exact hne b q r
            | false =>
              simp only [e_iff]
              exact next h6 (fun b q => .inl q) gj5 hk0 q6 f6 hne (by omega) hfl hfe
    · rintro l w5 ⟨J, k, obq, qv, qvals, qb, obf, fv, fvals, inF, rfl, h5, gj5, hk0, q5, f5, hne, hkq, hfl, hfe⟩ B
      rw [s6_p24_Fe]
      unfold s6_p23
      simp only [dnlt, e_lss, e_iff]
      unfold s6_p1
      exact ⟨rfl, h5.k0.below'⟩
end
end Go.Proofs.Qxb6500896aGreat
