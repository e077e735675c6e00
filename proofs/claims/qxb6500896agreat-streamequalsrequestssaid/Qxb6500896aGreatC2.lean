import Derived.Test.Qxb6500896aGreatC1
namespace Go.Proofs.Qxb6500896aGreat
open Go.Sh Go.RowKit
set_option linter.unusedVariables false
set_option linter.unusedSimpArgs false

theorem ans_list (σ : Sg) (id : Int) : ansQ park σ (qq 17 id 0 0 0) = qList park (qq 17 id 0 0 0) σ := rfl
theorem ans_clock (σ : Sg) : ansQ park σ (qq 20 0 0 0 0) = qClock park (qq 20 0 0 0 0) σ := rfl
theorem n63_id {k : Nat} (h : k ≤ 1000000) : N63 (((k + 1 : Nat)) : Int) := ⟨by omega, by omega⟩
theorem loop_m {F : (List Value → World → Prop) → List Value → World → Prop} {l : List Value} {w : World} (n : Nat) (Inv : Nat → List Value → World → Prop) (h0 : Inv n l w)
    (step : ∀ n l w, Inv n l w → ∀ B : List Value → World → Prop, (∀ m l' w', m < n → Inv m l' w' → B l' w') → F B l w) : LoopL F l w :=
  ⟨Inv, n, h0, fun n l w h => step n l w h _ fun m l' w' hm h' => ⟨m, hm, h'⟩⟩
section
variable {V V' V1 S F : Nat → Prop} {W w w' w1 w2 : World} {fv v : Value} {ans : Rq → List Int} {Z : (Nat → Prop) → World → Prop} {q : Rq} {p : Rp} {K : Value → World → Prop} {c : Nat} {σ : Sg}
theorem nrm_list {id : Int} : nrmB (qList park (qq 17 id 0 0 0) σ) = { rpo 17 with nx := (qList park (qq 17 id 0 0 0) σ).nx, recs := (qList park (qq 17 id 0 0 0) σ).recs } := by
  unfold nrmB
  have e : (qList park (qq 17 id 0 0 0) σ).op = 17 := rfl
  rw [e]
  rw [if_neg (by decide), if_neg (by decide), if_neg (by decide), if_neg (by decide), if_neg (by decide), if_pos rfl]
set_option maxHeartbeats 2000000 in
/-- the whole listing -/
theorem all_ok (s : Srv W fv ans Z) (HA : ∀ q, QOk q → ans q = eR (ansQ park σ q)) (g : SGd park σ) (z : Z V w) (rc : Row w c 143 [fv]) (hVc : V c)
    (hK : ∀ w' v V' its ob, Z V' w' → (∀ c, V c → V' c) → its.map (·.1) = σ.rs → Sl rC 7 w' 85 ob v its → (∀ b, ob = some b → V' b) → (∀ p ∈ its, Ar lC 2 (fun b => V' b ∧ ob ≠ some b) w' p.2 p.1.legs) → Ky V w w' → K (.tuple #[v, .nilIface]) w') : cl Tryz.prog 41 #[P c 0] K w := by
  have hlen := g.len
  have hmb : park.mb = 26 := rfl
  rw [hmb] at hlen
  apply c41
  unfold s41_p4 s41_p3
  have hlt0 := s.lt z
  refine loop_m (σ.rs.length + 1) (fun n l w' => ∃ (k : Nat) (nx : Int) (v : Value) (its : List (Rec × Value)) (ob : Option Nat) (V1 : Nat → Prop), l = [P c 0, v, I nx] ∧ Z V1 w' ∧ (∀ c, V c → V1 c) ∧ its.map (·.1) = σ.rs.take k ∧ Sl rC 7 w' 85 ob v its ∧ (∀ b, ob = some b → V1 b ∧ w.heap.size ≤ b) ∧ (∀ p ∈ its, Ar lC 2 (fun b => V1 b ∧ ob ≠ some b) w' p.2 p.1.legs) ∧ Ky V w w' ∧
    ((nx = 0 ∧ σ.rs.length ≤ k ∧ n = 0) ∨ (nx = ((k + 1 : Nat) : Int) ∧ k ≤ σ.rs.length ∧ n = σ.rs.length + 1 - k))) ⟨0, 1, _, [], none, V, rfl, z, fun _ q => q, rfl, ⟨rfl, rfl⟩, (fun b e => by cases e), (fun p hp => by cases hp), Ky.refl, .inr ⟨rfl, Nat.zero_le _, rfl⟩⟩ ?_
  rintro n l w1 ⟨k, nx, v, its, ob, V1, rfl, z1, hV1, hits, sl1, hob1, hlg1, ky1, hcase⟩ B hB
  rw [s41_p3_Fe]
  unfold s41_p2
  rcases hcase with ⟨rfl, hk, hn⟩ | ⟨hnx, hk, hn⟩
  · have e0 : ((0 : Int) != 0) = false := rfl
    simp only [e_neq, e0, e_iff]
    unfold s41_p1
    rw [List.take_of_length_le hk] at hits
    exact hK w1 v V1 its ob z1 hV1 hits sl1 (fun b e => (hob1 b e).1) hlg1 ky1
  · subst hnx
    have e0 : (((k + 1 : Nat) : Int) != 0) = true := by rw [bne_iff_ne]; omega
    simp only [e_neq, e0, e_ift]
    have hq : QOk (qq 17 ((k + 1 : Nat) : Int) 0 0 0) := qok_list (n63_id (by omega)) n63_0
    refine bdq_r (l := (qq 17 ((k + 1 : Nat) : Int) 0 0 0).cells nilS) rfl ?_
    have hop : 16 ≤ (qq 17 ((k + 1 : Nat) : Int) 0 0 0).op ∧ (qq 17 ((k + 1 : Nat) : Int) 0 0 0).op ≤ 24 := ⟨by show (16 : Int) ≤ 17; decide, by show (17 : Int) ≤ 24; decide⟩
    have hN : RpN (qList park (qq 17 ((k + 1 : Nat) : Int) 0 0 0) σ) := qR_rpn (q := qq 17 ((k + 1 : Nat) : Int) 0 0 0) park_cv (by decide) g (xprN hq.rqn hq.xpr) rfl hop
    have hX : RpX (qList park (qq 17 ((k + 1 : Nat) : Int) 0 0 0) σ) := qR_rpx (C := park) (q := qq 17 ((k + 1 : Nat) : Int) 0 0 0) g hop
    refine call_ok s z1 hq (ky1.row hVc rc) (hV1 c hVc) (p := qList park (qq 17 ((k + 1 : Nat) : Int) 0 0 0) σ) (by rw [HA _ hq, ans_list]) hN hX rfl rfl rfl fun w2 l2 V2 z2 hV2 hv2 ky2 => ?_
    rw [nrm_list] at hv2
    have erec : (qList park (qq 17 ((k + 1 : Nat) : Int) 0 0 0) σ).recs = (σ.rs.drop k).take 5 := by
      show (σ.rs.drop (qFst (qq 17 ((k + 1 : Nat) : Int) 0 0 0) - 1).toNat).take (qLim park (qq 17 ((k + 1 : Nat) : Int) 0 0 0)).toNat = _
      have e1 : (qFst (qq 17 ((k + 1 : Nat) : Int) 0 0 0) - 1).toNat = k := by
        unfold qFst
        show ((if ((k + 1 : Nat) : Int) < 1 then (1 : Int) else ((k + 1 : Nat) : Int)) - 1).toNat = k
        rw [if_neg (by omega)]
        omega
      have e2 : (qLim park (qq 17 ((k + 1 : Nat) : Int) 0 0 0)).toNat = 5 := rfl
      rw [e1, e2]
    have enx : (qList park (qq 17 ((k + 1 : Nat) : Int) 0 0 0) σ).nx = if k + 5 < σ.rs.length then ((k + 5 + 1 : Nat) : Int) else 0 := by
      have e1 : qFst (qq 17 ((k + 1 : Nat) : Int) 0 0 0) = ((k + 1 : Nat) : Int) := by
        unfold qFst
        show (if ((k + 1 : Nat) : Int) < 1 then (1 : Int) else ((k + 1 : Nat) : Int)) = _
        rw [if_neg (by omega)]
      have e2 : (qLim park (qq 17 ((k + 1 : Nat) : Int) 0 0 0)).toNat = 5 := rfl
      show (if (qFst (qq 17 ((k + 1 : Nat) : Int) 0 0 0) - 1).toNat + (qLim park (qq 17 ((k + 1 : Nat) : Int) 0 0 0)).toNat < σ.rs.length then qFst (qq 17 ((k + 1 : Nat) : Int) 0 0 0) + (((qLim park (qq 17 ((k + 1 : Nat) : Int) 0 0 0)).toNat : Nat) : Int) else 0) = _
      rw [e1, e2, show (((k + 1 : Nat) : Int) - 1).toNat = k by omega]
      split <;> omega
    rw [erec, enx] at hv2
    generalize hnx' : (if k + 5 < σ.rs.length then ((k + 5 + 1 : Nat) : Int) else 0) = nx' at hv2
    have s12 := ky2.size
    simp only [ex2_0, ex2_1]
    refine nw_r fun w3 r3 hk3 hz3 => ?_
    have hl34 := hv2.len
    refine stn_r (cs := l2) r3 hl34 (show 0 + 34 ≤ 34 by decide) hv2.sc fun w4 r4 hk4 hz4 => ?_
    rw [List.take_zero, List.nil_append, Nat.zero_add, List.drop_of_length_le (by decide), List.append_nil] at r4
    have k24 : Kp Emp w2 w4 := hk3.then hk4 fun b hb (q : b = _) => by omega
    have z4 := s.gro (S := Emp) z2 k24 fun b q => q.elim
    have hlt2 := s.lt z2
    obtain ⟨iv, rv, wv, rfl, hi2, hr2, hw2, hc2⟩ := hv2
    simp only [e_fne1, e_iff]
    -- the page is taken up
    have rest : fd 11 (P w2.heap.size 0) (fun t33 w => ld1 t33 (fun t34 w => apq 85 [I 0, I 0, I 0, I 0, I 0, I 0, nilS] 72 v t34 (fun t35 w => fd 12 (P w2.heap.size 0) (fun t36 w => ld1 t36 (fun t37 w => B [P c 0, t35, t37] w) w) w) w) w) w4 := by
      refine fdp (ld1_r (v := rv) r4 rfl ?_)
      obtain ⟨its2, f1, f2, f3⟩ := hr2
      have ky14 : Ky V1 w1 w4 := ky2.trans (Ky.of (V := V2) k24 fun _ _ q => q) hV2
      have sl4 : Sl rC 7 w4 85 ob v its := by
        obtain ⟨S, kk, hq⟩ := ky14
        exact sl1.kp kk fun b e => hq b (hob1 b e).1
      have f2' := f2.kp' k24
      have hl1 : its.length ≤ 26 := by
        have : its.length = (σ.rs.take k).length := by rw [← hits, List.length_map]
        rw [this, List.length_take]; omega
      have hl2 : its2.length ≤ 5 := by
        have : its2.length = ((σ.rs.drop k).take 5).length := by rw [← show its2.map (·.1) = (σ.rs.drop k).take 5 from f1, List.length_map]
        rw [this, List.length_take]; omega
      have hlt1 := s.lt z1
      refine Sl.app3 rC_len rfl (fun y hy => rC_sc (f3 y hy).scal) sl4 (f2'.rds rC_len) (by omega) (by omega) fun w5 v5 ob5 sl5 hk5 ho5 => ?_
      have s5 := hk5.size
      have z5 := s.gro z4 hk5 fun b e => .inl (hV2 b (hob1 b e).1)
      have hne : ¬ ob = some w2.heap.size := fun e => by have := hlt1 _ (hob1 _ e).1; omega
      refine fdp (ld1_r (v := I nx') (hk5.row r4 hne) rfl ?_)
      have hVs : ∀ c, V1 c → ((V2 c ∨ Nb w2 w4 c) ∨ Nb w4 w5 c) := fun c hc => .inl (.inl (hV2 c hc))
      have y5 : Ky V w w5 := by
        have y2 : Ky V w1 w4 := by
          obtain ⟨S, kk, hq⟩ := ky14
          exact ⟨S, kk, fun c hc => hq c (hV1 c hc)⟩
        refine (ky1.trans y2 fun _ q => q).trans (V1 := V) ?_ fun _ q => q
        exact Ky.of hk5 fun c hc e => by have := (hob1 c e).2; have := hlt0 c hc; omega
      have hob5 : ∀ b, ob5 = some b → ((V2 b ∨ Nb w2 w4 b) ∨ Nb w4 w5 b) ∧ w.heap.size ≤ b := fun b e => by
        rcases ho5 with q | ⟨d, q, hd⟩
        · exact ⟨hVs b (hob1 b (q ▸ e)).1, (hob1 b (q ▸ e)).2⟩
        · rw [q] at e
          have e := Option.some.inj e
          subst e
          have := ky1.size
          have := ky14.size
          exact ⟨.inr ⟨hd, by subst q; exact sl5.lt⟩, by omega⟩
      have s24 := k24.size
      have hlg5 : ∀ p ∈ its ++ its2, Ar lC 2 (fun b => ((V2 b ∨ Nb w2 w4 b) ∨ Nb w4 w5 b) ∧ ob5 ≠ some b) w5 p.2 p.1.legs := fun p hp => by
        rcases List.mem_append.1 hp with hp | hp
        · have a1 := ky14.ar (fun b hb => hb.1) (hlg1 p hp)
          refine (a1.kp hk5 fun b hb e => hb.2 e).mono fun b hb => ⟨hVs b hb.1, fun e => ?_⟩
          rcases ho5 with q | ⟨d, q, hd⟩
          · exact hb.2 (q ▸ e)
          · rw [q] at e; have e := Option.some.inj e; have := hlt1 b hb.1; omega
        · have a1 := (f3 p hp).kp' k24
          refine (a1.kp hk5 fun b hb e => by have := hlt1 b (hob1 b e).1; have := hb.2; omega).mono fun b hb => ⟨.inl (.inl hb.1), fun e => ?_⟩
          rcases ho5 with q | ⟨d, q, hd⟩
          · have := hlt1 b (hob1 b (q ▸ e)).1; have := hb.2; omega
          · rw [q] at e; have e := Option.some.inj e; have := hlt2 b hb.1; omega
      have hits5 : (its ++ its2).map (·.1) = σ.rs.take (k + 5) := by
        rw [List.map_append, hits, show its2.map (·.1) = (σ.rs.drop k).take 5 from f1, List.take_add]
      by_cases hmore : k + 5 < σ.rs.length
      · rw [if_pos hmore] at hnx'
        exact hB (σ.rs.length + 1 - (k + 5)) _ _ (by omega) ⟨k + 5, nx', v5, its ++ its2, ob5, _, rfl, z5, fun c hc => hVs c (hV1 c hc), hits5, sl5, hob5, hlg5, y5, .inr ⟨hnx'.symm, by omega, rfl⟩⟩
      · rw [if_neg hmore] at hnx'
        exact hB 0 _ _ (by omega) ⟨k + 5, nx', v5, its ++ its2, ob5, _, rfl, z5, fun c hc => hVs c (hV1 c hc), hits5, sl5, hob5, hlg5, y5, .inl ⟨hnx'.symm, by omega, rfl⟩⟩
    refine fdp (ld1_r (v := I nx') r4 rfl ?_)
    by_cases hnz : nx' = 0
    · have en : (nx' != 0) = false := by rw [hnz]; rfl
      simp only [e_neq, en, e_gdft, e_pkf, e_iff]
      exact rest
    · have en : (nx' != 0) = true := by rw [bne_iff_ne]; exact hnz
      simp only [e_neq, en, e_gdtt]
      refine fdp (ld1_r (v := I nx') r4 rfl ?_)
      have hle : ¬ nx' ≤ ((k + 1 : Nat) : Int) := by
        by_cases hmore : k + 5 < σ.rs.length
        · rw [if_pos hmore] at hnx'; omega
        · rw [if_neg hmore] at hnx'; exact absurd hnx'.symm hnz
      simp only [e_gdtt, e_leq, decide_eq_false hle, e_pkt, e_iff]
      exact rest
end
end Go.Proofs.Qxb6500896aGreat
