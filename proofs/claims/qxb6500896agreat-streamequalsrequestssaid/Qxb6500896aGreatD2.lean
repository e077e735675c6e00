import Derived.Test.Qxb6500896aGreatD1
namespace Go.Proofs.Qxb6500896aGreat
open Go.Sh Go.RowKit Classical
set_option linter.unusedVariables false
set_option linter.unusedSimpArgs false

section
variable {w : World} {K : Value → World → Prop}
theorem leg_ne {x y : Operand} {a b : Leg} (hK : K (.bool (!(legAt b.a b.s a))) w) : bor Tryz.prog .neq 88 x y (.agg (lC a).toArray) (.agg (lC b).toArray) K w := by
  refine bor_neq_flat (P := Tryz.prog) (t := 88) (x := x) (y := y) (K := K) (w := w) (xs := [I a.a, I a.s]) (ys := [I b.a, I b.s]) (ps := [(.i64, a.a, b.a), (.i64, a.s, b.s)]) lg_g lg_u lg_h (lg_flat a.a a.s b.a b.s) ?_
  have e : ([(IntKind.i64, a.a, b.a), (.i64, a.s, b.s)] : List (IntKind × Int × Int)).all (fun q => q.2.1 == q.2.2) = legAt b.a b.s a := by simp [legAt]
  rw [e]
  exact hK
end
set_option maxRecDepth 100000 in
theorem is_g : Tryz.prog.eqGuardType Tryz.prog.depth 90 = false := by kernel_rfl
set_option maxRecDepth 100000 in
theorem is_u : Tryz.prog.underlying 90 = some (.struct (Tryz.prog.fieldsOf 90)) := by kernel_rfl
set_option maxRecDepth 100000 in
theorem is_h : Tryz.prog.stoodInHeld 90 = false := by kernel_rfl
set_option maxRecDepth 100000 in
theorem is_flat (a b c d : Int) : flatF Tryz.prog [I a, I b] [I c, I d] (Tryz.prog.fieldsOf 90).toList = some [(.i64, a, c), (.i64, b, d)] := by kernel_rfl
section
variable {w : World} {K : Value → World → Prop}
theorem iss_ne {x y : Operand} {a : Iss} (hK : K (.bool false) w) : bor Tryz.prog .neq 90 x y (.agg (isC2 a).toArray) (.agg (isC2 a).toArray) K w := by
  refine bor_neq_flat (P := Tryz.prog) (t := 90) (x := x) (y := y) (K := K) (w := w) (xs := [I a.id, I a.slot]) (ys := [I a.id, I a.slot]) (ps := [(.i64, a.id, a.id), (.i64, a.slot, a.slot)]) is_g is_u is_h (is_flat a.id a.slot a.id a.slot) ?_
  have e : ([(IntKind.i64, a.id, a.id), (.i64, a.slot, a.slot)] : List (IntKind × Int × Int)).all (fun q => q.2.1 == q.2.2) = true := by simp
  rw [e]
  exact hK
end
theorem legAt_eq {a b : Leg} : legAt b.a b.s a = decide (a = b) := by
  cases a; cases b
  unfold legAt
  rw [Bool.eq_iff_iff]
  simp
section
variable {F G : Nat → Prop} {w w' w1 : World} {av bv : Value} {xa bs : List Leg} {K : Value → World → Prop}
theorem sameLegs_ok (ha : Ar lC 2 F w av xa) (hb : Ar lC 2 G w bv bs) (hK : ∀ w', Kp Emp w w' → K (.bool (decide (xa = bs))) w') : cl Tryz.prog 47 #[av, bv] K w := by
  apply c47
  unfold s47_p8
  refine ha.ln ?_
  refine hb.ln ?_
  have la := ha.len
  have lb := hb.len
  by_cases hl : xa.length = bs.length
  · have e0 : (((xa.length : Nat) : Int) != ((bs.length : Nat) : Int)) = false := by rw [hl]; simp
    simp only [e_neq, e0, e_iff]
    refine ha.ln ?_
    unfold s47_p7
    refine loop_n xa.length (fun i l w' => l = [av, bv, I (xa.length : Nat), I (i : Nat)] ∧ Kp Emp w w' ∧ xa.take i = bs.take i) ⟨rfl, Kp.refl _ _, rfl⟩ ?_ ?_
    · rintro i l w2 hi ⟨rfl, k2, he⟩ B hB
      rw [s47_p7_Fe]
      unfold s47_p6
      simp only [dlt hi, e_lss, e_ift]
      unfold s47_p5 s47_p4 s47_p4_d
      have kd : Kp Emp w2 (drw w2) := kp_drw
      generalize drw w2 = w3 at kd ⊢
      have k3 := k2.trans kd
      have hi2 : i < bs.length := by omega
      refine (ha.kp' k3).ix hi fun b1 o1 _ c1 => ?_
      refine c1.ldn (lC_len _) ?_
      refine (hb.kp' k3).ix hi2 fun b2 o2 _ c2 => ?_
      refine c2.ldn (lC_len _) ?_
      refine ⟨.bool (!(legAt bs[i].a bs[i].s xa[i])), fun w _ => leg_ne ⟨rfl, rfl⟩, ?_⟩
      rw [legAt_eq]
      unfold s47_p3
      by_cases hq : xa[i] = bs[i]
      · rw [decide_eq_true hq]
        simp only [Bool.not_true, e_iff]
        unfold s47_p2
        simp only [e_add]
        rw [inc i (by omega)]
        exact hB _ _ ⟨rfl, k3, by rw [List.take_succ_eq_append_getElem hi, List.take_succ_eq_append_getElem hi2, he, hq]⟩
      · rw [decide_eq_false hq]
        simp only [Bool.not_false, e_ift]
        rw [show decide (xa = bs) = false from decide_eq_false fun q => hq (by subst q; rfl)] at hK
        exact hK w3 k3
    · rintro l w2 ⟨rfl, k2, he⟩ B
      rw [s47_p7_Fe]
      unfold s47_p6
      simp only [dnlt, e_lss, e_iff]
      unfold s47_p1
      rw [List.take_length, List.take_of_length_le (by omega)] at he
      rw [decide_eq_true he] at hK
      exact hK w2 k2
  · have e0 : (((xa.length : Nat) : Int) != ((bs.length : Nat) : Int)) = true := by rw [bne_iff_ne]; omega
    simp only [e_neq, e0, e_ift]
    rw [show decide (xa = bs) = false from decide_eq_false fun q => hl (by rw [q])] at hK
    exact hK w (Kp.refl _ _)
end
section
variable {V V' V1 S F : Nat → Prop} {W w w' w1 w2 : World} {fv v : Value} {ans : Rq → List Int} {Z : (Nat → Prop) → World → Prop} {q : Rq} {p : Rp} {K : Value → World → Prop} {c : Nat} {σ : Sg}
theorem ans_line {a : Int} (ha : 0 ≤ a ∧ a < 3) : ansQ park σ (qq 19 0 a 0 0) = qLine (qq 19 0 a 0 0) σ ∧ valid park σ.now (qq 19 0 a 0 0) = 0 := by
  have hv : valid park σ.now (qq 19 0 a 0 0) = 0 := by
    have e : (qq 19 0 a 0 0).op = 19 := rfl
    unfold valid
    rw [e, if_neg (by decide), if_neg (by decide), if_neg (by decide), if_neg (by decide), if_pos rfl]
    have h1 : hasA park (qq 19 0 a 0 0).at' = true := by
      unfold hasA
      show (decide (0 ≤ a) && decide (a < ((park.ats.length : Nat) : Int))) = true
      have : park.ats.length = 3 := rfl
      rw [this, decide_eq_true ha.1, decide_eq_true (show a < ((3 : Nat) : Int) by omega)]
      rfl
    rw [if_pos h1]
  refine ⟨?_, hv⟩
  unfold ansQ
  rw [if_pos hv]
  rfl
theorem ans_get {id : Int} (h : has σ.rs id) : ansQ park σ (qq 16 id 0 0 0) = qGet (qq 16 id 0 0 0) σ ∧ valid park σ.now (qq 16 id 0 0 0) = 0 ∧ (qGet (qq 16 id 0 0 0) σ).code = 0 ∧ (qGet (qq 16 id 0 0 0) σ).op = 16 := by
  have hv : valid park σ.now (qq 16 id 0 0 0) = 0 := rfl
  have e : qGet (qq 16 id 0 0 0) σ = { rp0 with op := 16, recs := [rget σ.rs id] } := by
    unfold qGet
    rw [if_pos (show has σ.rs (qq 16 id 0 0 0).id from h)]
    rfl
  refine ⟨?_, hv, by rw [e]; rfl, by rw [e]⟩
  unfold ansQ
  rw [if_pos hv]
  have : qR park (qq 16 id 0 0 0) σ = qGet (qq 16 id 0 0 0) σ := rfl
  rw [this, e]
  rfl
set_option maxHeartbeats 1000000 in
/-- a line -/
theorem clLine_ok {a : Nat} (s : Srv W fv ans Z) (HA : ∀ q, QOk q → ans q = eR (ansQ park σ q)) (g : SGd park σ) (z : Z V w) (rc : Row w c 143 [fv]) (hVc : V c) (ha : a < 3)
    (hK : ∀ w' V' wv, Z V' w' → (∀ c, V c → V' c) → Ky V w w' → Ar iC 1 (fun b => V' b ∧ w.heap.size ≤ b) w' wv (lnOf σ.ls (a : Nat)) → K (.tuple #[wv, .nilIface]) w') : cl Tryz.prog 43 #[P c 0, I (a : Nat)] K w := by
  apply c43
  unfold s43_p1
  have hq : QOk (qq 19 0 ((a : Nat) : Int) 0 0) := qok_line ⟨by omega, by omega⟩
  refine bdq_r (l := (qq 19 0 ((a : Nat) : Int) 0 0).cells nilS) rfl ?_
  have hop : 16 ≤ (qq 19 0 ((a : Nat) : Int) 0 0).op ∧ (qq 19 0 ((a : Nat) : Int) 0 0).op ≤ 24 := ⟨by show (16 : Int) ≤ 19; decide, by show (19 : Int) ≤ 24; decide⟩
  obtain ⟨an, hv⟩ := ans_line (σ := σ) (a := ((a : Nat) : Int)) ⟨by omega, by omega⟩
  have hN : RpN (qLine (qq 19 0 ((a : Nat) : Int) 0 0) σ) := qR_rpn (q := qq 19 0 ((a : Nat) : Int) 0 0) park_cv (by decide) g (xprN hq.rqn hq.xpr) hv hop
  have hX : RpX (qLine (qq 19 0 ((a : Nat) : Int) 0 0) σ) := qR_rpx (C := park) (q := qq 19 0 ((a : Nat) : Int) 0 0) g hop
  refine call_ok s z hq rc hVc (p := qLine (qq 19 0 ((a : Nat) : Int) 0 0) σ) (by rw [HA _ hq, an]) hN hX rfl rfl rfl fun w2 l2 V2 z2 hV2 hv2 ky2 => ?_
  have en : nrmB (qLine (qq 19 0 ((a : Nat) : Int) 0 0) σ) = { rpo 19 with wt := lnOf σ.ls (a : Nat) } := by
    unfold nrmB
    have e : (qLine (qq 19 0 ((a : Nat) : Int) 0 0) σ).op = 19 := rfl
    rw [e]
    rw [if_neg (by decide), if_neg (by decide), if_neg (by decide), if_neg (by decide), if_neg (by decide), if_neg (by decide), if_neg (by decide), if_pos rfl]
    rfl
  rw [en] at hv2
  have hl34 := hv2.len
  have hsc := hv2.sc
  obtain ⟨iv, rv, wv, rfl, hi2, hr2, hw2, hc2⟩ := hv2
  simp only [ex2_0, ex2_1]
  refine nw_r fun w3 r3 hk3 hz3 => ?_
  refine stn_r (cs := _) r3 hl34 (show 0 + 34 ≤ 34 by decide) hsc fun w4 r4 hk4 hz4 => ?_
  rw [List.take_zero, List.nil_append, Nat.zero_add, List.drop_of_length_le (by decide), List.append_nil] at r4
  have k24 : Kp Emp w2 w4 := hk3.then hk4 fun b hb (q : b = _) => by omega
  refine fdp (ld1_r (v := wv) r4 rfl ?_)
  have z4 := s.gro (S := Emp) z2 k24 fun b q => q.elim
  exact hK w4 _ wv z4 (fun c hc => .inl (hV2 c hc)) (ky2.trans (Ky.of (V := V2) k24 fun _ _ q => q) hV2) ((hw2.kp' k24).mono fun b hb => ⟨.inl hb.1, hb.2⟩)
set_option maxHeartbeats 1000000 in
/-- a record -/
theorem clGet_ok {id : Int} (s : Srv W fv ans Z) (HA : ∀ q, QOk q → ans q = eR (ansQ park σ q)) (g : SGd park σ) (z : Z V w) (rc : Row w c 143 [fv]) (hVc : V c) (hid : has σ.rs id)
    (hK : ∀ w' V' lv, Z V' w' → (∀ c, V c → V' c) → Ky V w w' → Ar lC 2 (fun b => V' b ∧ w.heap.size ≤ b) w' lv (rget σ.rs id).legs → K (.tuple #[.agg (rC (rget σ.rs id, lv)).toArray, .nilIface]) w') : cl Tryz.prog 46 #[P c 0, I id] K w := by
  have hlt := s.lt z
  have hlen := g.len
  have hmb : park.mb = 26 := rfl
  rw [hmb] at hlen
  apply c46
  unfold s46_p1
  refine nw_r fun w1 r1 hk1 hz1 => ?_
  have z1 := s.gro (S := Emp) z hk1 fun b q => q.elim
  have hq : QOk (qq 16 id 0 0 0) := qok_id 16 (.inl rfl) ⟨by have := hid.1; omega, by have := hid.2; omega⟩
  refine bdq_r (l := (qq 16 id 0 0 0).cells nilS) rfl ?_
  have hop : 16 ≤ (qq 16 id 0 0 0).op ∧ (qq 16 id 0 0 0).op ≤ 24 := ⟨by show (16 : Int) ≤ 16; decide, by show (16 : Int) ≤ 24; decide⟩
  obtain ⟨an, hv, hc0, ho0⟩ := ans_get (σ := σ) hid
  have hN : RpN (qGet (qq 16 id 0 0 0) σ) := qR_rpn (q := qq 16 id 0 0 0) park_cv (by decide) g (xprN hq.rqn hq.xpr) hv hop
  have hX : RpX (qGet (qq 16 id 0 0 0) σ) := qR_rpx (C := park) (q := qq 16 id 0 0 0) g hop
  have eq : qGet (qq 16 id 0 0 0) σ = { rp0 with op := 16, recs := [rget σ.rs id] } := by
    unfold qGet
    rw [if_pos (show has σ.rs (qq 16 id 0 0 0).id from hid)]
    rfl
  refine call_ok s z1 hq (hk1.row' rc) (.inl hVc) (p := qGet (qq 16 id 0 0 0) σ) (by rw [HA _ hq, an]) hN hX (by rw [eq]; rfl) hc0 ho0 fun w2 l2 V2 z2 hV2 hv2 ky2 => ?_
  have en : nrmB (qGet (qq 16 id 0 0 0) σ) = { rpo 16 with recs := [rget σ.rs id] } := by
    rw [eq]
    rfl
  rw [en] at hv2
  have hl34 := hv2.len
  have hsc := hv2.sc
  obtain ⟨iv, rv, wv, rfl, hi2, hr2, hw2, hc2⟩ := hv2
  simp only [ex2_0, ex2_1]
  refine nw_r fun w3 r3 hk3 hz3 => ?_
  refine stn_r (cs := _) r3 hl34 (show 0 + 34 ≤ 34 by decide) hsc fun w4 r4 hk4 hz4 => ?_
  rw [List.take_zero, List.nil_append, Nat.zero_add, List.drop_of_length_le (by decide), List.append_nil] at r4
  have k24 : Kp Emp w2 w4 := hk3.then hk4 fun b hb (q : b = _) => by omega
  simp only [e_fne1, e_iff]
  refine fdp (ld1_r (v := rv) r4 rfl ?_)
  have hr4 := hr2.kp' k24
  obtain ⟨its, e1, hA, e4⟩ := hr4
  replace e1 : its.map (·.1) = [rget σ.rs id] := e1
  have hil : its.length = 1 := by have := congrArg List.length e1; simpa using this
  obtain ⟨p0, rfl⟩ : ∃ p0, its = [p0] := by
    cases its with
    | nil => simp at hil
    | cons p0 t => cases t with
      | nil => exact ⟨p0, rfl⟩
      | cons _ _ => simp at hil
  have ep : p0.1 = rget σ.rs id := by simpa using e1
  have hlg := e4 p0 List.mem_cons_self
  refine hA.ix (i := 0) (by simp) fun b o _ cc => ?_
  refine cc.ldn (rC_len _) ?_
  have v0 : Nb w w1 w.heap.size := ⟨Nat.le_refl _, by omega⟩
  have s2 := ky2.size
  have hn4 : w.heap.size < w2.heap.size := by omega
  refine stn_r (cs := rC p0) (k24.row' (ky2.row (.inr v0) r1)) (rC_len _) (show 0 + 7 ≤ 7 by decide) (rC_sc hlg.scal) fun w5 r5 hk5 hz5 => ?_
  rw [List.take_zero, List.nil_append, Nat.zero_add, List.drop_of_length_le (by decide), List.append_nil] at r5
  refine ldn_r r5 (show 0 + 7 ≤ 7 by decide) ?_
  have z4 := s.gro (S := Emp) z2 k24 fun b q => q.elim
  have z5 := s.gro z4 hk5 fun b (q : b = _) => .inl (hV2 b (.inr (q ▸ v0)))
  obtain ⟨r0, lv0⟩ := p0
  simp only at ep
  subst ep
  refine hK w5 _ lv0 z5 (fun c hc => .inl (.inl (hV2 c (.inl hc)))) ?_ ?_
  · have y1 : Ky V w w1 := Ky.of hk1 fun _ _ q => q
    have y2 : Ky V w1 w2 := by obtain ⟨S, kk, hq⟩ := ky2; exact ⟨S, kk, fun c hc => hq c (.inl hc)⟩
    have y3 : Ky V w2 w4 := Ky.of k24 fun _ _ q => q
    have y4 : Ky V w4 w5 := Ky.of hk5 fun c hc (q : c = _) => by have := hlt c hc; omega
    exact ((y1.trans y2 fun _ q => q).trans y3 fun _ q => q).trans y4 fun _ q => q
  · refine (hlg.kp hk5 fun b hb (q : b = _) => by have := hb.2; omega).mono fun b hb => ⟨.inl (.inl hb.1), by have := hb.2; omega⟩
end
end Go.Proofs.Qxb6500896aGreat
