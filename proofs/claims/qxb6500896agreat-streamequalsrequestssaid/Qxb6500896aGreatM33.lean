import Derived.Test.Qxb6500896aGreatK71
import Derived.Test.Qxb6500896aGreatN8
namespace Go.Proofs.Qxb6500896aGreat
open Go.Sh Go.RowKit
set_option linter.unusedVariables false
set_option linter.unusedSimpArgs false

/-! ### a batch -/
def stbL (C : Cfg) : List (List Int) → Sg → Jr → Sg × Jr × List Rp
  | [], σ, J => (σ, J, [])
  | bs :: r, σ, J => ((stbL C r (stbS C bs σ J).1 (stbS C bs σ J).2.1).1, (stbL C r (stbS C bs σ J).1 (stbS C bs σ J).2.1).2.1, (stbS C bs σ J).2.2 :: (stbL C r (stbS C bs σ J).1 (stbS C bs σ J).2.1).2.2)
def batS (C : Cfg) (bss : List (List Int)) (σ : Sg) (J : Jr) : Sg × Jr × List (List Int) :=
  ((setS C (stbL C bss σ J).1 (stbL C bss σ J).2.1).1, (setS C (stbL C bss σ J).1 (stbL C bss σ J).2.1).2.1, if (setS C (stbL C bss σ J).1 (stbL C bss σ J).2.1).2.2 = 0 then (stbL C bss σ J).2.2.map eR else bss.map fun _ => [19])
theorem stbL_app {C : Cfg} : ∀ {l : List (List Int)} {x : List Int} {σ : Sg} {J : Jr}, stbL C (l ++ [x]) σ J = ((stbS C x (stbL C l σ J).1 (stbL C l σ J).2.1).1, (stbS C x (stbL C l σ J).1 (stbL C l σ J).2.1).2.1, (stbL C l σ J).2.2 ++ [(stbS C x (stbL C l σ J).1 (stbL C l σ J).2.1).2.2])
  | [], x, σ, J => rfl
  | b :: l, x, σ, J => by
    rw [List.cons_append, stbL, stbL_app (l := l)]
    rfl
theorem stbL_len {C : Cfg} : ∀ {l : List (List Int)} {σ : Sg} {J : Jr}, (stbL C l σ J).2.2.length = l.length
  | [], σ, J => rfl
  | b :: l, σ, J => by
    rw [stbL]
    simp only [List.length_cons]
    rw [stbL_len (l := l)]
/-- byte strings that are only read -/
def Rwb (F : Nat → Prop) (w : World) (v : Value) (xss : List (List Int)) : Prop :=
  ∃ vals, Ar one 1 F w v vals ∧ vals.length = xss.length ∧ ∀ i (h1 : i < vals.length) (h2 : i < xss.length), Ar bC 1 F w vals[i] xss[i]
/-- replies -/
def Rpb (F : Nat → Prop) (w : World) (rb : Nat) (v : Value) (outs : List (List Int)) : Prop :=
  ∃ vals, Sl one 1 w 37 (some rb) v vals ∧ vals.length = outs.length ∧ ∀ i (h1 : i < vals.length) (h2 : i < outs.length), Ar bC 1 F w vals[i] outs[i]
section
variable {F G M0 M M' S V : Nat → Prop} {w w' w0 w1 : World} {v qv : Value} {e rb : Nat} {C : Cfg} {K : Value → World → Prop} {m0 m m' : Me} {σ σ' : Sg} {J J' : Jr} {bss : List (List Int)}
theorem Rwb.kp {xss : List (List Int)} (h : Rwb F w v xss) (hk : Kp S w w') (hS : ∀ b, F b → ¬ S b) : Rwb F w' v xss := by
  obtain ⟨vals, h1, h2, h3⟩ := h
  exact ⟨vals, h1.kp hk hS, h2, fun i a b => (h3 i a b).kp hk hS⟩
/-- a reply is put in its place -/
theorem put_rep {i : Nat} {x : Value} {vals : List Value} {out : List Int} {X : World → Prop} {b6 : Nat} (s : Es M0 w0 e m0 C V w M m σ J) (hsl : Sl one 1 w 37 (some rb) v vals) (hi : i < vals.length) (hv : V rb) (sl : Sl bC 1 w 5 (some b6) x out) (hb6 : V b6) (hne : b6 ≠ rb) (hl : out.length ≤ 1000000000)
    (hX : ∀ w', Es M0 w0 e m0 C V w' M m σ J → Sl one 1 w' 37 (some rb) v (vals.set i x) → Kp (fun c => c = rb) w w' → X w') : ixs 1 v (I (i : Nat)) (fun t w => st1 t x X w) w := by
  refine sl_ixp hsl hi ?_
  refine sl_upd (j := 0) (y := x) hsl one_len hi (by decide) (by obtain ⟨cap, junk, e, _⟩ := sl; rw [e]; rfl) rfl fun w1 sl1 hk1 hz1 => ?_
  exact hX w1 (s.wr hk1 fun b (q : b = rb) => q ▸ hv) sl1 hk1
set_option maxHeartbeats 4000000 in
theorem batE_ok (cv : CV C) (hmb : C.mb ≤ 1000000) (hst : ∀ k, k ≤ bss.length → EB (stbL C (bss.take k) σ J).1 ∧ ((stbL C (bss.take k) σ J).1.down = false → SGd C (stbL C (bss.take k) σ J).1)) (h : En M w e m C σ J) (hq : Rwb F w qv bss) (hF : ∀ b, F b → b < w.heap.size ∧ ¬ OwnE e m b) (hB : ∀ bs ∈ bss, By bs) (hn : bss.length ≤ 100000) (hlen : ∀ p : Rp, RpN p → p.cnt.length = 10 → (eR p).length ≤ 1000000000) (hcnt : ∀ bs σ J, (stbS C bs σ J).2.2.cnt.length = 10)
    (hK : ∀ w' M' m' v rb, Ext M M' w w' → Kp (OwnE e m) w w' → m'.j = m.j → (∀ b, OwnE e m' b → OwnE e m b ∨ w.heap.size ≤ b) → En M' w' e m' C (batS C bss σ J).1 (batS C bss σ J).2.1 → Rpb (fun b => Fb w e w' m' b ∧ M' b ∧ b ≠ rb) w' rb v (batS C bss σ J).2.2 → Fb w e w' m' rb → M' rb → K v w') : cl Tryz.prog 118 #[P e 0, qv] K w := by
  obtain ⟨qvals, q1, q2, q3⟩ := hq
  apply c118
  unfold s118_p9
  refine q1.ln ?_
  refine mks_n (f := one) (k := 1) (z0 := nilS) rfl rfl (by decide) (by omega) (by omega) fun w1 s1 hk1 hz1 => ?_
  refine q1.ln ?_
  have es1 := (Es.start h).new hk1 (Nat.le_refl _) (show w.heap.size < w1.heap.size by omega)
  unfold s118_p8
  refine loop_n qvals.length (fun i l w' => l = [P e 0, .slice (some ⟨w.heap.size, 0, none⟩) qvals.length qvals.length, qv, I (qvals.length : Nat), I (i : Nat)] ∧ ∃ V M' m' vals, Es M w e m C V w' M' m' (stbL C (bss.take i) σ J).1 (stbL C (bss.take i) σ J).2.1 ∧ V w.heap.size ∧ Sl one 1 w' 37 (some w.heap.size) (.slice (some ⟨w.heap.size, 0, none⟩) qvals.length qvals.length) vals ∧ vals.length = qvals.length ∧ (∀ k (h1 : k < vals.length) (h2 : k < (stbL C (bss.take i) σ J).2.2.length), Ar bC 1 (fun b => V b ∧ b ≠ w.heap.size) w' vals[k] (eR (stbL C (bss.take i) σ J).2.2[k]))) ⟨rfl, _, _, _, _, es1, .inr rfl, s1, List.length_replicate, fun k h1 h2 => (by cases h2)⟩ ?_ ?_
  · rintro i l w2 hi ⟨rfl, V, M2, m2, vals, es, hV, sl, hvl, hrep⟩ B hB'
    rw [s118_p8_Fe]
    unfold s118_p7
    simp only [dlt hi, e_lss, e_ift]
    have hi2 : i < bss.length := by omega
    have hFn : ∀ b, F b → ¬ OwnE e m b := fun b q => (hF b q).2
    have q1' := q1.kp es.k hFn
    refine q1'.ix hi fun b o _ cc => ?_
    refine cc.ld0 (v := qvals[i]) rfl ?_
    obtain ⟨eb, g⟩ := hst i (by omega)
    have hst1 := hst (i + 1) (by omega)
    rw [List.take_succ_eq_append_getElem hi2, stbL_app] at hB' hst1
    have hsl := stbL_len (C := C) (l := bss.take i) (σ := σ) (J := J)
    rw [List.length_take] at hsl
    have hrp := stbS_rpn (J := (stbL C (bss.take i) σ J).2.1) (bs := bss[i]) cv hmb g
    have hct := hcnt bss[i] (stbL C (bss.take i) σ J).1 (stbL C (bss.take i) σ J).2.1
    generalize stbL C (bss.take i) σ J = a at es hrep eb g hB' hst1 hsl hrp hct
    refine stbE_ok cv hmb g eb es.en ((q3 i hi hi2).kp es.k hFn) (fun b q => by have := (hF b q).1; have := es.k.size; omega) (hB _ (List.getElem_mem hi2)) (es.step2 fun w3 M3 m3 es3 hk3 ho3 l3 rv3 => ?_)
    generalize stbS C bss[i] a.1 a.2.1 = y at es3 rv3 hB' hst1 hrp hct
    refine encRep_ok hrp rv3 (fun b hb => hb.2.1) fun w4 v4 b4 sl4 hb4 hk4 => ?_
    have es4 := es3.new hk4 hb4.1 hb4.2
    have sl' := (sl.kp hk3 fun b e => by cases e; exact (es.v _ hV).2.1).kp' hk4
    have hVlt : ∀ c, V c → c < w2.heap.size := fun c q => es.en.lt c (es.v c q).1
    have hz3 := hk3.size
    have hne : b4 ≠ w.heap.size := by have := hVlt _ hV; have := hb4.1; omega
    refine put_rep es4 sl' (by omega) (.inl hV) sl4 (.inr rfl) hne (hlen _ hrp hct) fun w5 es5 sl5 hk5 => ?_
    simp only [e_add]
    rw [inc i (by omega)]
    refine hB' _ _ ⟨rfl, _, M3 |> fun M3 b => M3 b ∨ b = b4, m3, vals.set i v4, es5, .inl hV, sl5, by rw [List.length_set]; exact hvl, fun k h1 h2 => ?_⟩
    rw [List.length_set] at h1
    have h2' : k < a.2.2.length + 1 := by rw [List.length_append] at h2; exact h2
    by_cases hk : k = i
    · subst hk
      have e1 : (vals.set k v4)[k] = v4 := List.getElem_set_self _
      have e2 : (a.2.2 ++ [y.2.2])[k] = y.2.2 := by
        rw [List.getElem_append_right (by omega)]
        simp only [show k - a.2.2.length = 0 by omega, List.getElem_cons_zero]
      simp only [e1, e2]
      exact ((sl4.ar bC_len (by have := hlen _ hrp hct; omega) fun c q => (Option.some.inj q).symm).kp hk5 fun b (q : b = b4) (r : b = w.heap.size) => hne (q ▸ r)).mono fun b (q : b = b4) => ⟨.inr q, by rw [q]; exact hne⟩
    · have e1 : (vals.set i v4)[k] = vals[k] := List.getElem_set_ne (fun q => hk q.symm) _
      have e2 : (a.2.2 ++ [y.2.2])[k] = a.2.2[k]'(by omega) := List.getElem_append_left (by omega)
      simp only [e1, e2]
      have old := hrep k h1 (by omega)
      exact (((old.kp hk3 fun b q => (es.v b q.1).2.1).kp' hk4).kp hk5 fun b q (r : b = w.heap.size) => q.2 r).mono fun b q => ⟨.inl q.1, q.2⟩
  · rintro l w2 ⟨rfl, V, M2, m2, vals, es, hV, sl, hvl, hrep⟩ B
    rw [s118_p8_Fe]
    unfold s118_p7
    simp only [dnlt, e_lss, e_iff]
    unfold s118_p6
    obtain ⟨eb, g⟩ := hst bss.length (Nat.le_refl _)
    have hsl := stbL_len (C := C) (l := bss) (σ := σ) (J := J)
    rw [q2, List.take_length] at es hrep
    rw [List.take_length] at eb g
    unfold batS at hK
    generalize stbL C bss σ J = a at es hrep eb g hsl hK
    refine setE_ok cv hmb g es.en (es.step2 fun w3 M3 m3 es3 hk3 ho3 => ?_)
    generalize setS C a.1 a.2.1 = y at es3 hK
    have sl3 := sl.kp hk3 fun b e => by cases e; exact (es.v _ hV).2.1
    simp only [e_neq]
    unfold s118_p5
    have hrb := es3.v _ hV
    by_cases h0 : y.2.2 = 0
    · have e0 : (y.2.2 != 0) = false := by rw [h0]; rfl
      simp only [e0, e_iff]
      unfold s118_p1
      rw [if_pos h0] at hK
      refine hK w3 M3 m3 _ w.heap.size es3.x es3.k es3.j es3.o es3.en ⟨vals, sl3, by rw [List.length_map]; omega, fun i h1 h2 => ?_⟩ ⟨Nat.le_refl _, es3.en.lt _ hrb.1, hrb.2.1⟩ hrb.1
      rw [List.length_map] at h2
      rw [List.getElem_map]
      refine ((hrep i h1 h2).kp hk3 fun b q => (es.v b q.1).2.1).mono fun b q => ?_
      have hb := es3.v b q.1
      exact ⟨⟨hb.2.2, es3.en.lt _ hb.1, hb.2.1⟩, hb.1, q.2⟩
    · have e0 : (y.2.2 != 0) = true := bne_iff_ne.2 h0
      simp only [e0, e_ift]
      rw [if_neg h0] at hK
      unfold s118_p4
      refine sl3.ln ?_
      rw [hvl]
      unfold s118_p3
      refine loop_n qvals.length (fun i l w' => l = [.slice (some ⟨w.heap.size, 0, none⟩) qvals.length qvals.length, I (qvals.length : Nat), I (i : Nat)] ∧ ∃ V M' vals, Es M w e m C V w' M' m3 y.1 y.2.1 ∧ V w.heap.size ∧ Sl one 1 w' 37 (some w.heap.size) (.slice (some ⟨w.heap.size, 0, none⟩) qvals.length qvals.length) vals ∧ vals.length = qvals.length ∧ (∀ k (h1 : k < vals.length), k < i → Ar bC 1 (fun b => V b ∧ b ≠ w.heap.size) w' vals[k] [19])) ⟨rfl, V, M3, vals, es3, hV, sl3, hvl, fun k h1 h2 => by omega⟩ ?_ ?_
      · rintro i l w4 hi ⟨rfl, V4, M4, vals4, es4, hV4, sl4, hvl4, hrep4⟩ B2 hB2
        rw [s118_p3_Fe]
        unfold s118_p2
        simp only [dlt hi, e_lss, e_ift]
        refine refusal_ok fun w5 hk5 => ?_
        refine encRep_ok (F := Emp) (p := rf 19) (RpN.rf ⟨by decide, by decide⟩) (Rv.plain rfl rfl rfl rfl) (fun b q => q.elim) fun w6 v6 b6 sl6 hb6 hk6 => ?_
        have es6 := (es4.emp hk5).new hk6 hb6.1 hb6.2
        have hVlt : ∀ c, V4 c → c < w4.heap.size := fun c q => es4.en.lt c (es4.v c q).1
        have hz5 := hk5.size
        have hne : b6 ≠ w.heap.size := by have := hVlt _ hV4; have := hb6.1; omega
        have sl6' : Sl bC 1 w6 5 (some b6) v6 [19] := sl6
        refine put_rep es6 ((sl4.kp' hk5).kp' hk6) (by omega) (.inl hV4) sl6' (.inr rfl) hne (by simp) fun w7 es7 sl7 hk7 => ?_
        simp only [e_add]
        rw [inc i (by omega)]
        refine hB2 _ _ ⟨rfl, _, _, vals4.set i v6, es7, .inl hV4, sl7, by rw [List.length_set]; exact hvl4, fun k h1 h2 => ?_⟩
        rw [List.length_set] at h1
        by_cases hk : k = i
        · subst hk
          have e1 : (vals4.set k v6)[k] = v6 := List.getElem_set_self _
          simp only [e1]
          exact ((sl6'.ar bC_len (by simp) fun c q => (Option.some.inj q).symm).kp hk7 fun b (q : b = b6) (r : b = w.heap.size) => hne (q ▸ r)).mono fun b (q : b = b6) => ⟨.inr q, by rw [q]; exact hne⟩
        · have e1 : (vals4.set i v6)[k] = vals4[k] := List.getElem_set_ne (fun q => hk q.symm) _
          simp only [e1]
          exact ((((hrep4 k h1 (by omega)).kp' hk5).kp' hk6).kp hk7 fun b q (r : b = w.heap.size) => q.2 r).mono fun b q => ⟨.inl q.1, q.2⟩
      · rintro l w4 ⟨rfl, V4, M4, vals4, es4, hV4, sl4, hvl4, hrep4⟩ B2
        rw [s118_p3_Fe]
        unfold s118_p2
        simp only [dnlt, e_lss, e_iff]
        unfold s118_p1
        have hrb4 := es4.v _ hV4
        refine hK w4 M4 m3 _ w.heap.size es4.x es4.k es4.j es4.o es4.en ⟨vals4, sl4, by rw [List.length_map]; omega, fun i h1 h2 => ?_⟩ ⟨Nat.le_refl _, es4.en.lt _ hrb4.1, hrb4.2.1⟩ hrb4.1
        rw [List.getElem_map]
        refine (hrep4 i h1 (by omega)).mono fun b q => ?_
        have hb := es4.v b q.1
        exact ⟨⟨hb.2.2, es4.en.lt _ hb.1, hb.2.1⟩, hb.1, q.2⟩
end
end Go.Proofs.Qxb6500896aGreat
