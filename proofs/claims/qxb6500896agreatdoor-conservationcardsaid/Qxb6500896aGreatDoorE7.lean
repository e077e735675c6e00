import Derived.Test.Qxb6500896aGreatDoorE6
namespace Go.Proofs.Qxb6500896aGreatDoor
open Go.Sh Go.RowKit
set_option linter.unusedVariables false
set_option linter.unusedSimpArgs false

section
variable {W w w' w0 w1 : World} {V V' S F : Nat → Prop} {r e c gb b9 b10 : Nat} {σ σ' : Sg} {J J' : Jr} {K : Value → World → Prop} {B1 : List Value → World → Prop} {v bv av t9 t10 t11 t30 t31 t32 lv : Value} {bs : List Int} {k k' : Int} {B : List Rec} {ns : List Int} {xs : List Op}
/-- a failure is armed -/
theorem p11_ok {op : Op × Value} {b8 : Nat} {V0 : Nat → Prop} {w0 : World} (hG : Gm W) (hk : 0 ≤ k ∧ k ≤ 999999) (h0 : Cs W V0 w0 r c gb J k B bv ns) (hV0 : ∀ b, V0 b → V b) (ky0 : Ky V0 w0 w) (rg : Rg3 W V w r J k B)
    (r8 : Row w b8 37 (opC op)) (v8 : V b8) (ha : op.1.after ≤ 9223372036854775807) (next : Nxt W r c gb (k + 1) K B1 t30 t31 t32) :
    s3_p11 K B1 (P r 0) (P c 0) bv (.map (some gb)) (P b8 0) t9 t10 (.bool false) t30 t31 t32 w := by
  have hk1 : k ≤ k + 1 := by omega
  unfold s3_p11 s3_p11_d
  have kd : Kp Emp w (drw w) := kp_drw
  generalize drw w = w6 at kd ⊢
  have l6 := rg.gro (S := Emp) kd fun b q => q.elim
  have r6 := kd.row' r8
  have ky6 : Ky V0 w0 w6 := ky0.trans (Ky.of (V := V) kd fun _ _ q => q) hV0
  have p9f : ∀ (w' : World), Rg2 W (fun b => V b ∨ Nb w w6 b) w' r (armJ J op.1.after op.1.keep) (k + 1) B → Kp (fun c => ¬ (V c ∨ Nb w w6 c)) w6 w' → s3_p9 K B1 (P r 0) (P c 0) bv (.map (some gb)) t9 t10 (.bool false) t30 t31 t32 w' := fun w' rg' k' =>
    p9_no hG (by omega) (h0.on2 rg' ((h0.gj.arm _ _).mono hk1) (fun b q => .inl (hV0 b q)) (ky6.trans (Ky.of (V := fun b => V b ∨ Nb w w6 b) k' fun c hc q => q hc) fun b q => .inl (hV0 b q))) fun w2 V2 B2 bv2 h2 => next w2 V2 _ B2 bv2 ns h2
  have arm : ∃ (j : Nat) (x : Value), Row w6 r 58 [P j 0, x] ∧ cl Tryz.prog 15 #[P j 0, I op.1.after, I op.1.keep] (fun _ w => s3_p9 K B1 (P r 0) (P c 0) bv (.map (some gb)) t9 t10 (.bool false) t30 t31 t32 w) w6 := by
    rcases l6 with ⟨e6, σ6, z6, g6, d6, q6, l6, rfl⟩ | ⟨⟨e6, σ6, z6, g6, d6⟩ | z6, d⟩
    · obtain ⟨j, hr, ha⟩ := Le.arm (a := op.1.after) (b := op.1.keep) (X := fun w => s3_p9 K B1 (P r 0) (P c 0) bv (.map (some gb)) t9 t10 (.bool false) t30 t31 t32 w) ha z6 fun w7 z7 hk7 => p9f w7 (.inl ⟨e6, σ6, z7, g6.mono hk1, d6, q6.arm2 _ _, l6, Rel.refl _⟩) hk7
      exact ⟨j, _, hr, ha⟩
    · obtain ⟨j, hr, ha⟩ := Le.arm (a := op.1.after) (b := op.1.keep) (X := fun w => s3_p9 K B1 (P r 0) (P c 0) bv (.map (some gb)) t9 t10 (.bool false) t30 t31 t32 w) ha z6 fun w7 z7 hk7 => p9f w7 (.inr ⟨.inl ⟨e6, σ6, z7, g6.mono hk1, d6⟩, d.arm _ _⟩) hk7
      exact ⟨j, _, hr, ha⟩
    · obtain ⟨j, hr, ha⟩ := La.arm (a := op.1.after) (b := op.1.keep) (X := fun w => s3_p9 K B1 (P r 0) (P c 0) bv (.map (some gb)) t9 t10 (.bool false) t30 t31 t32 w) ha z6 fun w7 z7 hk7 => p9f w7 (.inr ⟨.inr z7, d.arm _ _⟩) hk7
      exact ⟨j, _, hr, ha⟩
  obtain ⟨j, x, hr, ha⟩ := arm
  refine nk0 (fdp (ld1_r (v := P j 0) hr rfl ?_))
  refine fdp (ld1_r (v := I op.1.after) r6 rfl ?_)
  refine fdp (ld1_r (v := I op.1.keep) r6 rfl ?_)
  exact ha
/-- the power goes and comes back -/
theorem p12_ok {op : Op × Value} {b8 : Nat} {V0 : Nat → Prop} {w0 : World} (hG : Gm W) (hk : 0 ≤ k ∧ k ≤ 999999) (h0 : Cs W V0 w0 r c gb J k B bv ns) (hV0 : ∀ b, V0 b → V b) (ky0 : Ky V0 w0 w) (rg : Rg3 W V w r J k B)
    (r8 : Row w b8 37 (opC op)) (v8 : V b8) (hsc : scal op.2 = true) (ha : op.1.after ≤ 9223372036854775807) (next : Nxt W r c gb (k + 1) K B1 t30 t31 t32) :
    s3_p12 K B1 (P r 0) (P c 0) bv (.map (some gb)) (P b8 0) t9 t10 (.bool false) t30 t31 t32 (I op.1.kind) w := by
  have hk1 : k ≤ k + 1 := by omega
  unfold s3_p12
  cases hk2 : (op.1.kind == 2) with
  | true =>
    simp only [e_eql, hk2, e_ift]
    refine ldn_r r8 (show 0 + 4 ≤ 4 by decide) ?_
    obtain ⟨x, z5⟩ := rg.two.la
    have hd := (rg.two.d).reop op.1
    refine reopen_x (p := op) z5 h0.gj (by omega) hsc ha fun w6 g6 h6 hk6 => ?_
    obtain ⟨o1, o2⟩ := hd.opn (coreC_rel B)
    refine p9_no hG (by omega) (h0.on2 (V' := V) (k' := k + 1) ?_ (g6.mono hk1) hV0 (ky0.trans (Ky.of (V := V) hk6 fun c hc q => q hc) hV0)) fun w2 V2 B2 bv2 h2 => next w2 V2 _ B2 bv2 ns h2
    rcases h6 with ⟨h6, hno⟩ | ⟨e6, σ6, h6, hs6, gs6⟩
    · exact .inr ⟨.inr h6, o1⟩
    · rcases o2 with ⟨σ7, a1, a2, a3, a4, a5, a6⟩ | ⟨a1, _⟩
      · rw [hs6] at a1
        have := Option.some.inj a1
        subst this
        exact .inl ⟨e6, σ6, h6, gs6.mono hk1, a3, a4, a5, a6⟩
      · rw [hs6] at a1
        cases a1
  | false =>
    simp only [e_eql, hk2, e_iff]
    exact p9_no hG (by omega) (h0.on2 (rg.two.mono hk1) (h0.gj.mono hk1) hV0 ky0) fun w2 V2 B2 bv2 h2 => next w2 V2 _ B2 bv2 ns h2
set_option maxHeartbeats 4000000 in
theorem cons_walk (hG : Gm W) (hs : Scr W v xs) : cl Tryz.prog 3 #[v] (fun e W' => e = .bool true ∧ Below W.heap.size W W') W := by
  apply c3
  unfold s3_p20
  refine small_ok hs (Kp.refl _ _) fun rr hr => ?_
  cases rr with
  | false =>
    simp only [Bool.not_false, e_not, e_ift]
    exact ⟨trivial, (Kp.refl _ _).below'⟩
  | true =>
    obtain ⟨hxl, hbl⟩ := hr rfl
    simp only [Bool.not_true, e_not, e_iff]
    refine pj_ok2 fun w1 hk1 => ?_
    refine newRigF_ok (a := 48) (b := 72) (c := 1200) ⟨by decide, by decide⟩ hk1 fun w2 r e z2 hk2 => ?_
    apply c10
    unfold s10_p1
    refine bdq_r (l := [sendV r]) rfl ?_
    refine nw_r fun w3 r3 hk3 hz3 => ?_
    replace r3 : Row w3 w2.heap.size 97 [sendV r] := r3
    refine mk_map (q := .i64) fun w4 hm4 hk4 hz4 => ?_
    have k24 : Kp Emp w2 w4 := hk3.trans hk4
    have q0 : RgQ (Core (sg0 park)) (sg0 park) (jr0 48 72 1200) := by
      refine ⟨Gd.zero park_cv, rfl, rfl, rfl, Nat.le_refl _, rfl, ⟨(fun x hx => by cases hx), (fun x hx => by cases hx), by simp [jr0]⟩, fun n a b => ⟨sg0 park, ?_, Core.refl _, fun _ => Core.refl _⟩⟩
      have : opn1 park (jr0 48 72 1200) = some (sg0 park) := rfl
      rw [← this]
      exact opn1_eq rfl rfl (by show ([] : List (List Int)).take n = []; simp)
    have z4 : Le W (fun b => b = w2.heap.size ∨ b = w3.heap.size) w4 r e (sg0 park) (jr0 48 72 1200) := (z2.gro (S := Emp) k24 fun b q => q.elim).sub fun b q => .inr (by
      have s3 := hk3.size
      have s4 := hk4.size
      rcases q with q | q
      · exact ⟨by omega, by omega⟩
      · exact ⟨by omega, by omega⟩)
    have r4 := hk4.row' r3
    generalize w2.heap.size = c at r4 z4
    generalize w3.heap.size = gb at hm4 z4
    have c4 : Cs W (fun b => b = c ∨ b = gb) w4 r c gb (jr0 48 72 1200) 0 [] (.slice none 0 0) [] := ⟨.inl ⟨e, _, z4, gs0, rfl, q0, rfl, Rel.refl _⟩, gj0, .inl rfl, .inr rfl, r4, ⟨[], rfl, Ar.nil, (fun p hp => by cases hp)⟩, (fun x hx => by cases hx), Nat.zero_le _, hm4, fun n hn => by cases hn⟩
    have g4 : Rg3 W (fun b => b = c ∨ b = gb) w4 r (jr0 48 72 1200) 0 [] := .inl ⟨e, _, z4, gs0, rfl, q0, rfl, rfl⟩
    obtain ⟨its, h1, h2, hits⟩ := hs
    have hil : its.length = xs.length := by rw [← h1, List.length_map]
    refine h2.ln ?_
    unfold s3_p19
    refine loop_n its.length (fun i l w' => ∃ V J B bv ns, l = [P r 0, P c 0, bv, .map (some gb), v, I (its.length : Nat), I (i : Nat)] ∧ Cs W V w' r c gb J ((i : Nat) : Int) B bv ns ∧ Rg3 W V w' r J ((i : Nat) : Int) B) ⟨_, _, _, _, _, rfl, c4, g4⟩ ?_ ?_
    · rintro i l w5 hi ⟨V5, J, B, bv, ns, rfl, c5, g5⟩ B1 hB1
      rw [s3_p19_Fe]
      unfold s3_p18
      have hp := hits _ (List.getElem_mem hi)
      simp only [dlt hi, e_lss, e_ift]
      unfold s3_p17
      have k05 := c5.rg.kp0
      have lt5 := c5.rg.lt
      refine each_r rfl (h2.kp' k05) hi (opC_len _) (by simp only [opC, List.all_cons, List.all_nil, hp.1.scal]; rfl) fun w6 r6 hk6 hz6 => ?_
      generalize its[i] = op at hp r6
      refine nw_r fun w7 r7 hk7 hz7 => ?_
      refine nw_r fun w8 r8 hk8 hz8 => ?_
      have k58 : Kp Emp w5 w8 := (hk6.trans hk7).trans hk8
      have g8 := g5.gro (S := Emp) k58 fun b q => q.elim
      have ky8 : Ky V5 w5 w8 := Ky.of k58 fun _ _ q => q
      have ro := hk8.row' (hk7.row' r6)
      have r9 := hk8.row' r7
      have vo : V5 w5.heap.size ∨ Nb w5 w8 w5.heap.size := .inr ⟨Nat.le_refl _, by omega⟩
      have v9 : V5 w6.heap.size ∨ Nb w5 w8 w6.heap.size := .inr ⟨by omega, by omega⟩
      have v10 : V5 w7.heap.size ∨ Nb w5 w8 w7.heap.size := .inr ⟨by omega, by omega⟩
      have n9 : ¬ V5 w6.heap.size := fun q => by have := lt5 _ q; omega
      have n10 : ¬ V5 w7.heap.size := fun q => by have := lt5 _ q; omega
      have n910 : w6.heap.size ≠ w7.heap.size := by omega
      have hWz := g8.two.kp0.size
      have next : Nxt W r c gb (((i : Nat) : Int) + 1) (fun e W' => e = .bool true ∧ Below W.heap.size W W') B1 v (I (its.length : Nat)) (I (i : Nat)) := fun w' V' J' B' bv' ns' h' => by
        unfold s3_p2
        simp only [e_add]
        rw [inc i (by omega)]
        have e : ((i : Nat) : Int) + 1 = ((i + 1 : Nat) : Int) := by omega
        rw [e] at h'
        exact hB1 _ _ ⟨V', J', B', bv', ns', rfl, h'.1, h'.2⟩
      refine fdp (ld1_r (v := I op.1.kind) ro rfl ?_)
      unfold s3_p16
      have hki : 0 ≤ ((i : Nat) : Int) ∧ ((i : Nat) : Int) ≤ 999999 := by omega
      have p10 := p10_ok (K := fun e W' => e = .bool true ∧ Below W.heap.size W W') (B1 := B1) (t30 := v) (t31 := I (its.length : Nat)) (t32 := I (i : Nat)) hG hki c5 (fun b q => .inl q) ky8 g8 ro vo (v := op.2) rfl r9 rfl v9 n9 r8 rfl v10 n10 n910 hp.1 hp.2.1 next
      have p15t : s3_p15 (fun e W' => e = .bool true ∧ Below W.heap.size W W') B1 (P r 0) (P c 0) bv (.map (some gb)) (P w5.heap.size 0) (P w6.heap.size 0) (P w7.heap.size 0) (.bool false) v (I (its.length : Nat)) (I (i : Nat)) (I op.1.kind) (.bool true) w8 := by
        unfold s3_p15
        exact sw_t p10
      have p15f : s3_p15 (fun e W' => e = .bool true ∧ Below W.heap.size W W') B1 (P r 0) (P c 0) bv (.map (some gb)) (P w5.heap.size 0) (P w6.heap.size 0) (P w7.heap.size 0) (.bool false) v (I (its.length : Nat)) (I (i : Nat)) (I op.1.kind) (.bool false) w8 := by
        unfold s3_p15
        refine sw_f ?_
        unfold s3_p14
        cases hk1 : (op.1.kind == 1) with
        | true =>
          refine bo_yes hk1 ?_
          unfold s3_p13
          refine sw_t ?_
          exact p11_ok hG hki c5 (fun b q => .inl q) ky8 g8 ro vo hp.2.2 next
        | false =>
          refine bo_no hk1 ?_
          unfold s3_p13
          refine sw_f ?_
          exact p12_ok hG hki c5 (fun b q => .inl q) ky8 g8 ro vo hp.1.scal hp.2.2 next
      cases hk0 : (op.1.kind == 0) with
      | true => exact bo_yes hk0 (sw_t p15t)
      | false =>
        refine bo_no hk0 (sw_f ?_)
        cases hk4 : (op.1.kind == 4) with
        | true => exact bo_yes hk4 p15t
        | false => exact bo_no hk4 p15f
    · rintro l w5 ⟨V5, J, B, bv, ns, rfl, c5, g5⟩ B1
      rw [s3_p19_Fe]
      unfold s3_p18
      simp only [dnlt, e_lss, e_iff]
      unfold s3_p1
      exact ⟨rfl, c5.rg.kp0.below'⟩
end
end Go.Proofs.Qxb6500896aGreatDoor
