import Derived.Test.Qxb6500896aGreatC2
namespace Go.Proofs.Qxb6500896aGreat
open Go.Sh Go.RowKit
set_option linter.unusedVariables false
set_option linter.unusedSimpArgs false

section
variable {V V' V1 S F : Nat → Prop} {W w w' w1 w2 : World} {fv v : Value} {ans : Rq → List Int} {Z : (Nat → Prop) → World → Prop} {q : Rq} {p : Rp} {K : Value → World → Prop} {c : Nat} {σ : Sg}
theorem nrm_clock : nrmB (qClock park (qq 20 0 0 0 0) σ) = { rpo 20 with now := σ.now, la := σ.now + 8 - 1, gr := (σ.rs.length : Nat) } := by
  unfold nrmB
  have e : (qClock park (qq 20 0 0 0 0) σ).op = 20 := rfl
  rw [e]
  rw [if_neg (by decide), if_neg (by decide), if_neg (by decide), if_neg (by decide), if_neg (by decide), if_neg (by decide), if_neg (by decide), if_neg (by decide), if_pos rfl]
  rfl
/-- the clock -/
theorem clock_ok (s : Srv W fv ans Z) (HA : ∀ q, QOk q → ans q = eR (ansQ park σ q)) (g : SGd park σ) (z : Z V w) (rc : Row w c 143 [fv]) (hVc : V c)
    (hK : ∀ w' V', Z V' w' → (∀ c, V c → V' c) → Ky V w w' → K (.tuple #[I σ.now, I (σ.now + 7), I ((σ.rs.length : Nat) : Int), .nilIface]) w') : cl Tryz.prog 42 #[P c 0] K w := by
  apply c42
  unfold s42_p3
  have hq : QOk (qq 20 0 0 0 0) := qok_none 20 (.inl rfl)
  refine bdq_r (l := (qq 20 0 0 0 0).cells nilS) rfl ?_
  have hop : 16 ≤ (qq 20 0 0 0 0).op ∧ (qq 20 0 0 0 0).op ≤ 24 := ⟨by show (16 : Int) ≤ 20; decide, by show (20 : Int) ≤ 24; decide⟩
  have hN : RpN (qClock park (qq 20 0 0 0 0) σ) := qR_rpn (q := qq 20 0 0 0 0) park_cv (by decide) g (xprN hq.rqn hq.xpr) rfl hop
  have hX : RpX (qClock park (qq 20 0 0 0 0) σ) := qR_rpx (C := park) (q := qq 20 0 0 0 0) g hop
  refine call_ok s z hq rc hVc (p := qClock park (qq 20 0 0 0 0) σ) (by rw [HA _ hq, ans_clock]) hN hX rfl rfl rfl fun w2 l2 V2 z2 hV2 hv2 ky2 => ?_
  rw [nrm_clock] at hv2
  simp only [ex2_0, ex2_1]
  refine nw_r fun w3 r3 hk3 hz3 => ?_
  have hl34 := hv2.len
  refine stn_r (cs := l2) r3 hl34 (show 0 + 34 ≤ 34 by decide) hv2.sc fun w4 r4 hk4 hz4 => ?_
  rw [List.take_zero, List.nil_append, Nat.zero_add, List.drop_of_length_le (by decide), List.append_nil] at r4
  have k24 : Kp Emp w2 w4 := hk3.then hk4 fun b hb (q : b = _) => by omega
  obtain ⟨iv, rv, wv, rfl, hi2, hr2, hw2, hc2⟩ := hv2
  unfold s42_p2 s42_p2_d
  have kd : Kp Emp w4 (drw w4) := kp_drw
  generalize drw w4 = w5 at kd ⊢
  have r5 := kd.row' r4
  refine fdp (ld1_r (v := I σ.now) r5 rfl ?_)
  refine fdp (ld1_r (v := I (σ.now + 8 - 1)) r5 rfl ?_)
  refine fdp (ld1_r (v := I ((σ.rs.length : Nat) : Int)) r5 rfl ?_)
  refine ⟨(Kp.refl _ _).below', ?_⟩
  unfold s42_p1
  have k25 := k24.trans kd
  have z5 := s.gro (S := Emp) z2 k25 fun b q => q.elim
  have := hK w5 _ z5 (fun c hc => .inl (hV2 c hc)) (ky2.trans (Ky.of (V := V2) k25 fun _ _ q => q) hV2)
  rw [show σ.now + 8 - 1 = σ.now + 7 by omega]
  exact this
theorem ans_slot {a s : Int} (ha : 0 ≤ a ∧ a < 3) (hs : σ.now ≤ s ∧ s ≤ σ.now + 7) : ansQ park σ (qq 18 0 a s 0) = qSlot park (qq 18 0 a s 0) σ ∧ valid park σ.now (qq 18 0 a s 0) = 0 := by
  have hv : valid park σ.now (qq 18 0 a s 0) = 0 := by
    have e : (qq 18 0 a s 0).op = 18 := rfl
    unfold valid
    rw [e, if_neg (by decide), if_neg (by decide), if_neg (by decide), if_pos rfl]
    have h1 : hasA park (qq 18 0 a s 0).at' = true := by
      unfold hasA
      show (decide (0 ≤ a) && decide (a < ((park.ats.length : Nat) : Int))) = true
      have : park.ats.length = 3 := rfl
      rw [this, decide_eq_true ha.1, decide_eq_true (show a < ((3 : Nat) : Int) by omega)]
      rfl
    have h2 : isO park σ.now (qq 18 0 a s 0).sl = true := by
      unfold isO
      show (decide (σ.now ≤ s) && decide (s - σ.now < park.hz)) = true
      have : park.hz = 8 := rfl
      rw [this, decide_eq_true hs.1, decide_eq_true (by omega)]
      rfl
    rw [if_pos h1, if_pos h2]
  refine ⟨?_, hv⟩
  unfold ansQ
  rw [if_pos hv]
  rfl
/-- a slot -/
theorem slot_ok {a : Nat} {sl : Int} (s : Srv W fv ans Z) (HA : ∀ q, QOk q → ans q = eR (ansQ park σ q)) (g : SGd park σ) (z : Z V w) (rc : Row w c 143 [fv]) (hVc : V c) (ha : a < 3) (hs : σ.now ≤ sl ∧ sl ≤ σ.now + 7)
    (hK : ∀ w' V' iv rv wv, Z V' w' → (∀ c, V c → V' c) → Ky V w w' → scal iv = true ∧ scal rv = true ∧ scal wv = true → K (.tuple #[.agg (({ rpo 18 with oc := inside park σ.rs (a : Nat) sl 0, e0 := entered σ.rs (a : Nat) sl 0 0, e1 := entered σ.rs (a : Nat) sl 1 0, e2 := entered σ.rs (a : Nat) sl 2 0, fr := (qSlot park (qq 18 0 (a : Nat) sl 0) σ).fr } : Rp).cells iv rv wv).toArray, .nilIface]) w') : cl Tryz.prog 112 #[P c 0, I (a : Nat), I sl] K w := by
  have hn := g.now
  have hmc : park.mc = 36 := rfl
  rw [hmc] at hn
  have hlt := s.lt z
  apply c112
  unfold s112_p1
  refine nw_r fun w1 r1 hk1 hz1 => ?_
  replace r1 : Row w1 w.heap.size 94 (rp0.cells nilS nilS nilS) := r1
  have z1 := s.gro (S := Emp) z hk1 fun b q => q.elim
  have hq : QOk (qq 18 0 ((a : Nat) : Int) sl 0) := qok_slot ⟨by omega, by omega⟩ ⟨by omega, by omega⟩
  refine bdq_r (l := (qq 18 0 ((a : Nat) : Int) sl 0).cells nilS) rfl ?_
  have hop : 16 ≤ (qq 18 0 ((a : Nat) : Int) sl 0).op ∧ (qq 18 0 ((a : Nat) : Int) sl 0).op ≤ 24 := ⟨by show (16 : Int) ≤ 18; decide, by show (18 : Int) ≤ 24; decide⟩
  obtain ⟨an, hv⟩ := ans_slot (σ := σ) (a := ((a : Nat) : Int)) (s := sl) ⟨by omega, by omega⟩ hs
  have hN : RpN (qSlot park (qq 18 0 ((a : Nat) : Int) sl 0) σ) := qR_rpn (q := qq 18 0 ((a : Nat) : Int) sl 0) park_cv (by decide) g (xprN hq.rqn hq.xpr) hv hop
  have hX : RpX (qSlot park (qq 18 0 ((a : Nat) : Int) sl 0) σ) := qR_rpx (C := park) (q := qq 18 0 ((a : Nat) : Int) sl 0) g hop
  refine call_ok s z1 hq (hk1.row' rc) (.inl hVc) (p := qSlot park (qq 18 0 ((a : Nat) : Int) sl 0) σ) (by rw [HA _ hq, an]) hN hX rfl rfl rfl fun w2 l2 V2 z2 hV2 hv2 ky2 => ?_
  have en : nrmB (qSlot park (qq 18 0 ((a : Nat) : Int) sl 0) σ) = { rpo 18 with oc := inside park σ.rs (a : Nat) sl 0, e0 := entered σ.rs (a : Nat) sl 0 0, e1 := entered σ.rs (a : Nat) sl 1 0, e2 := entered σ.rs (a : Nat) sl 2 0, fr := (qSlot park (qq 18 0 (a : Nat) sl 0) σ).fr } := by
    unfold nrmB
    have e : (qSlot park (qq 18 0 ((a : Nat) : Int) sl 0) σ).op = 18 := rfl
    rw [e]
    rw [if_neg (by decide), if_neg (by decide), if_neg (by decide), if_neg (by decide), if_neg (by decide), if_neg (by decide), if_pos rfl]
    rfl
  rw [en] at hv2
  have hl34 := hv2.len
  have hsc := hv2.sc
  obtain ⟨iv, rv, wv, rfl, hi2, hr2, hw2, hc2⟩ := hv2
  simp only [ex2_0, ex2_1]
  have v0 : Nb w w1 w.heap.size := ⟨Nat.le_refl _, by omega⟩
  refine stn_r (cs := _) (ky2.row (.inr v0) r1) hl34 (show 0 + 34 ≤ 34 by decide) hsc fun w3 r3 hk3 hz3 => ?_
  rw [List.take_zero, List.nil_append, Nat.zero_add, List.drop_of_length_le (by decide), List.append_nil] at r3
  refine ldn_r r3 (by rw [Nat.zero_add]; exact Nat.le_of_eq hl34.symm) ?_
  rw [List.drop_zero, List.take_of_length_le (Nat.le_of_eq hl34)]
  have z3 := s.gro z2 hk3 fun b (q : b = _) => hV2 b (.inr (q ▸ v0))
  refine hK w3 _ iv rv wv z3 (fun c hc => .inl (hV2 c (.inl hc))) ?_ ⟨hi2.scal, by obtain ⟨its, _, a2, _⟩ := hr2; exact a2.scal, hw2.scal⟩
  have y1 : Ky V w w1 := Ky.of hk1 fun _ _ q => q
  have y2 : Ky V w1 w2 := by obtain ⟨S, kk, hq⟩ := ky2; exact ⟨S, kk, fun c hc => hq c (.inl hc)⟩
  have y3 : Ky V w2 w3 := Ky.of hk3 fun c hc (q : c = _) => by have := hlt c hc; omega
  exact (y1.trans y2 fun _ q => q).trans y3 fun _ q => q
end
end Go.Proofs.Qxb6500896aGreat
