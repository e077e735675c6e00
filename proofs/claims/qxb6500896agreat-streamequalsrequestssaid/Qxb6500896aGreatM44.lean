import Derived.Test.Qxb6500896aGreatM43
namespace Go.Proofs.Qxb6500896aGreat
open Go.Sh Go.RowKit
set_option linter.unusedVariables false
set_option linter.unusedSimpArgs false

section
variable {O O' G F S V V' N M : Nat → Prop} {W w w' w0 w1 : World} {r e m c pos b' : Nat} {v v1 v2 qv x ov pv bv' : Value} {l : List Value} {K : Value → World → Prop} {B1 : List Value → World → Prop} {bs d R p xs ys pre ins out rst : List Int} {bss Bs : List (List Int)} {ob ob2 : Option Nat} {vals : List Value} {σ : Sg} {J : Jr} {s0 s1 : Ms} {b : Bool}
theorem e_gdu {X : (Value → World → Prop) → World → Prop} {y : Bool} : gd undef y X K w = K undef w := propext ⟨fun h => h.out, fun h => ⟨h⟩⟩
/-- a request of a stream: its reply is appended, in a frame -/
theorem rep_app (mw : Mw O G w0 O' w m σ.ms) (g : SGd park σ) (hx : Ar bC 1 F w x bs) (hF : ∀ b, F b → b < w.heap.size) (hb : By bs) (hl : bs.length ≤ 1000000000000) (so : Sl bC 1 w 5 (some b') ov pre) (hb' : w0.heap.size ≤ b') (hn' : ¬ O' b') (hol : (pre ++ (uI (((mdS bs σ).2.length : Nat) : Int) ++ (mdS bs σ).2)).length ≤ 140737488355328)
    (hK : ∀ w' v' b2 O2, Mw O G w0 O2 w' m (mdS bs σ).1.ms → Sl bC 1 w' 5 (some b2) v' (pre ++ (uI (((mdS bs σ).2.length : Nat) : Int) ++ (mdS bs σ).2)) → w0.heap.size ≤ b2 → ¬ O2 b2 → K v' w') :
    cl Tryz.prog 25 #[P m 0, x] (fun t42 w => lnS t42 (fun t45 w => cl Tryz.prog 139 #[t45] (fun t46 w => apq 5 [(.int .u8 0)] 1 ov t46 (fun t47 w => apq 5 [(.int .u8 0)] 1 t47 t42 K w) w) w) w) w := by
  have hml := mdS_len (bs := bs) g
  have hkz := mw.k.size
  have hbl := so.lt
  rw [List.length_append, List.length_append] at hol
  refine handleM_ok mw.mo g hx hF hb hl fun w1 v1 b1 O1 m1 sl1 hb1 nb1 => ?_
  have hz1 := m1.k.size
  have mw1 : Mw O G w0 O1 w1 m (mdS bs σ).1.ms := mw.upd m1.mo m1.k m1.up fun c q => (m1.dn c q).imp id fun q => ⟨by have := q.1; omega, q.2⟩
  have so1 := so.kp m1.k fun c q => by rw [← Option.some.inj q]; exact hn'
  have hn1 : ¬ O1 b' := fun q => by
    rcases m1.dn _ q with q | q
    · exact hn' q
    · have := q.1; omega
  refine sl1.ln ?_
  refine number_ok ⟨by omega, by omega⟩ fun w2 v2 b2 sl2 hb2 hk2 => ?_
  have hz2 := hk2.size
  have hb1l := sl1.lt
  refine Sl.app2 bC_len rfl (fun _ _ => rfl) (so1.kp' hk2) sl2 (by omega) (by omega) fun w3 v3 ob3 sl3 hk3 ho3 => ?_
  have hz3 := hk3.size
  have mw2 := mw1.emp hk2
  have mw3 : Mw O G w0 O1 w3 m (mdS bs σ).1.ms := mw2.kp hk3 fun c q => by rw [← Option.some.inj q]; exact ⟨hn1, hb'⟩
  have hb3 : ∃ b3, ob3 = some b3 ∧ w0.heap.size ≤ b3 ∧ ¬ O1 b3 ∧ b3 ≠ b1 := by
    rcases ho3 with q | ⟨c, q, hc⟩
    · exact ⟨b', q, hb', hn1, by omega⟩
    · exact ⟨c, q, by omega, fun r => by have := mw2.mo.lt c (.inl r); omega, by omega⟩
  obtain ⟨b3, rfl, hb3, hn3, hne⟩ := hb3
  have sl1' := (sl1.kp' hk2).kp hk3 fun c q r => by
    have e1 := Option.some.inj q
    have e2 := Option.some.inj r
    omega
  have hb3l := sl3.lt
  refine Sl.app2 bC_len rfl (fun _ _ => rfl) sl3 sl1' (by rw [List.length_append]; omega) (by rw [List.length_append]; omega) fun w4 v4 ob4 sl4 hk4 ho4 => ?_
  have mw4 : Mw O G w0 O1 w4 m (mdS bs σ).1.ms := mw3.kp hk4 fun c q => by rw [← Option.some.inj q]; exact ⟨hn3, hb3⟩
  have hb4 : ∃ b4, ob4 = some b4 ∧ w0.heap.size ≤ b4 ∧ ¬ O1 b4 := by
    rcases ho4 with q | ⟨c, q, hc⟩
    · exact ⟨b3, q, hb3, hn3⟩
    · exact ⟨c, q, by omega, fun r => by have := mw3.mo.lt c (.inl r); omega⟩
  obtain ⟨b4, rfl, hb4, hn4⟩ := hb4
  rw [List.append_assoc] at sl4
  exact hK w4 v4 b4 O1 mw4 sl4 hb4 hn4
set_option maxHeartbeats 4000000 in
/-- a whole stream, by the model -/
theorem streamM_ok (mo : Mo O G w m s0) (hA : Ar bC 1 F w v ins) (hF : ∀ b, F b → b < w.heap.size ∧ ¬ O b) (hb : By ins) (hl : ins.length ≤ 1000000000000) (fr : Fr ins Bs rst b) (rn : Rn Bs s0 out s1) (hol : out.length ≤ 140737488355328) (hK : MK O G w m K s1 out) : cl Tryz.prog 56 #[P m 0, v] K w := by
  apply c56
  unfold s56_p3
  refine Sl.empty (f := bC) (k := 1) fun w1 sl1 hk1 hz1 => ?_
  unfold s56_p2
  have hn0 : ¬ O w.heap.size := fun q => by have := mo.lt _ (.inl q); omega
  refine loop_m ins.length (fun n l w' => ∃ rest B r b s out2 pre u ov b' O', n = rest.length ∧ l = [P m 0, u, ov] ∧ Ar bC 1 F w u rest ∧ By rest ∧ rest.length ≤ 1000000000000 ∧ Fr rest B r b ∧ Rn B s out2 s1 ∧ Mw O G w O' w' m s ∧ Sl bC 1 w' 5 (some b') ov pre ∧ w.heap.size ≤ b' ∧ ¬ O' b' ∧ pre ++ out2 = out) ⟨ins, Bs, rst, b, s0, out, [], v, _, _, O, rfl, rfl, hA, hb, hl, fr, rn, (Mw.start mo).emp hk1, sl1, Nat.le_refl _, hn0, rfl⟩ ?_
  rintro n l w2 ⟨rest, B, rr, bb, s, out2, pre, u, ov, b', O', rfl, rfl, hu, hbr, hlr, hfr, hrn, mw, so, hb', hn', heq⟩ BB hB
  rw [s56_p2_Fe]
  unfold s56_p1
  have hu2 : Ar bC 1 F w2 u rest := hu.kp mw.k fun c q => (hF c q).2
  have hkz := mw.k.size
  refine first_ok hu2 hbr ?_
  simp only [ex2_0, ex2_1]
  have hlen := congrArg List.length heq
  rw [List.length_append] at hlen
  have hv := scan_v rest
  rcases hfr.inv with ⟨h, rfl⟩ | ⟨h, rfl⟩ | ⟨h, h1, rfl⟩ | ⟨B', h, h1, h2, rfl⟩
  · -- short
    obtain ⟨rfl, rfl⟩ := hrn
    have et : tookM (scan rest) = 0 := by unfold tookM; rw [h]; rfl
    have e0 : ((0 : Int) == 0) = true := rfl
    simp only [et, e_eql, e0, e_gdtf, e_gdu, e_pkt, e_ift]
    rw [List.append_nil] at heq
    subst heq
    exact hK w2 ov b' O' mw so hb' hn'
  · -- bad
    obtain ⟨σ, g, rfl, o', rfl, rfl, rfl⟩ := hrn
    have et : tookM (scan rest) = -1 := by unfold tookM; rw [h]; rfl
    have e0 : ((-1 : Int) == 0) = false := rfl
    have e1 : decide ((0 : Int) < -1) = false := by decide
    have e2 : decide ((-1 : Int) < 0) = true := by decide
    simp only [et, e_eql, e0, e_gdff, e_gtr, e1, e_gdft, e_pkf, e_iff]
    refine Sl.empty (f := bC) (k := 1) fun w3 sl3 hk3 hz3 => ?_
    rw [List.append_nil] at heq
    refine rep_app (mw.emp hk3) g (sl3.arb (by simp)) (fun c q => by omega) By.nil (by simp) (so.kp' hk3) hb' hn' (by rw [heq]; exact hol) fun w4 v4 b4 O4 mw4 sl4 hb4 hn4 => ?_
    simp only [e_lss, e2, e_ift]
    rw [heq] at sl4
    exact hK w4 v4 b4 O4 mw4 sl4 hb4 hn4
  · -- part
    obtain ⟨rfl, rfl⟩ := hrn
    have hsb := scan_b h
    have et : tookM (scan rest) = (((scan rest).2.1 : Nat) : Int) := by unfold tookM; rw [h]; rfl
    have ev : valM (scan rest) = (((scan rest).1 : Nat) : Int) := by unfold valM; rw [h]; rfl
    have e0 : ((((scan rest).2.1 : Nat) : Int) == 0) = false := by rw [beq_eq_false_iff_ne]; omega
    have e1 : decide ((0 : Int) < (((scan rest).2.1 : Nat) : Int)) = true := decide_eq_true (by omega)
    simp only [et, ev, e_eql, e0, e_gdff, e_gtr, e1, e_gdtt]
    refine hu2.ln ?_
    have ew : IntKind.i64.wrap (((rest.length : Nat) : Int) - (((scan rest).2.1 : Nat) : Int)) = ((rest.length : Nat) : Int) - (((scan rest).2.1 : Nat) : Int) := wrap64_id (by omega) (by omega)
    have e2 : decide (((rest.length : Nat) : Int) - (((scan rest).2.1 : Nat) : Int) < (((scan rest).1 : Nat) : Int)) = true := decide_eq_true (by omega)
    simp only [e_gdtt, e_gdff, e_sub, ew, e_gtr, e2, e_pkt, e_pkf, e_ift]
    rw [List.append_nil] at heq
    subst heq
    exact hK w2 ov b' O' mw so hb' hn'
  · -- frame
    obtain ⟨σ, g, rfl, o', rfl, hrn⟩ := hrn
    have hsb := scan_b h
    have et : tookM (scan rest) = (((scan rest).2.1 : Nat) : Int) := by unfold tookM; rw [h]; rfl
    have ev : valM (scan rest) = (((scan rest).1 : Nat) : Int) := by unfold valM; rw [h]; rfl
    have e0 : ((((scan rest).2.1 : Nat) : Int) == 0) = false := by rw [beq_eq_false_iff_ne]; omega
    have e1 : decide ((0 : Int) < (((scan rest).2.1 : Nat) : Int)) = true := decide_eq_true (by omega)
    simp only [et, ev, e_eql, e0, e_gdff, e_gtr, e1, e_gdtt]
    refine hu2.ln ?_
    have ew : IntKind.i64.wrap (((rest.length : Nat) : Int) - (((scan rest).2.1 : Nat) : Int)) = ((rest.length : Nat) : Int) - (((scan rest).2.1 : Nat) : Int) := wrap64_id (by omega) (by omega)
    have e2 : decide (((rest.length : Nat) : Int) - (((scan rest).2.1 : Nat) : Int) < (((scan rest).1 : Nat) : Int)) = false := decide_eq_false (by omega)
    simp only [e_gdtt, e_gdff, e_sub, ew, e_gtr, e2, e_pkt, e_pkf, e_iff]
    refine Sl.empty (f := bC) (k := 1) fun w3 sl3 hk3 hz3 => ?_
    have ew2 : IntKind.i64.wrap ((((scan rest).2.1 : Nat) : Int) + (((scan rest).1 : Nat) : Int)) = (((scan rest).2.1 + (scan rest).1 : Nat) : Int) := by rw [wrap64_id (by omega) (by omega)]; omega
    simp only [e_gtr, e1, e_ift, e_add, ew2]
    refine (hu2.kp' hk3).sub (lo := (scan rest).2.1) (hi := (scan rest).2.1 + (scan rest).1) (by omega) (by omega) (lov := some (I _)) (hiv := some (I _)) rfl (fun a c e => rfl) fun u3 a3 => ?_
    rw [Nat.add_sub_cancel_left] at a3
    have hbl : ((rest.drop (scan rest).2.1).take (scan rest).1).length ≤ 1000000000000 := by rw [List.length_take, List.length_drop]; omega
    have hz3' := hk3.size
    rw [← List.append_assoc] at heq
    have hol2 := hol
    rw [← heq, List.length_append] at hol2
    refine rep_app (mw.emp hk3) g a3 (fun c q => by have := (hF c q).1; omega) ((hbr.drop _).take _) hbl (so.kp' hk3) hb' hn' (by omega) fun w4 v4 b4 O4 mw4 sl4 hb4 hn4 => ?_
    have e3 : decide ((((scan rest).2.1 : Nat) : Int) < 0) = false := decide_eq_false (by omega)
    simp only [e_lss, e3, e_iff, e_add, ew2]
    refine hu.sub (lo := (scan rest).2.1 + (scan rest).1) (hi := rest.length) h1 (Nat.le_refl _) (lov := some (I _)) (hiv := none) rfl (fun a c e => rfl) fun u5 a5 => ?_
    rw [List.take_of_length_le (by rw [List.length_drop]; omega)] at a5
    have hdl : (rest.drop ((scan rest).2.1 + (scan rest).1)).length = rest.length - ((scan rest).2.1 + (scan rest).1) := List.length_drop
    exact hB (rest.drop ((scan rest).2.1 + (scan rest).1)).length _ _ (by omega) ⟨_, B', _, _, _, o', _, u5, v4, b4, O4, rfl, rfl, a5, hbr.drop _, by omega, h2, hrn, mw4, sl4, hb4, hn4, heq⟩
end
end Go.Proofs.Qxb6500896aGreat
