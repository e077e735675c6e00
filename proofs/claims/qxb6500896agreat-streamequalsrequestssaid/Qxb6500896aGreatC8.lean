import Derived.Test.Qxb6500896aGreatC7
namespace Go.Proofs.Qxb6500896aGreat
open Go.Sh Go.RowKit
set_option linter.unusedVariables false
set_option linter.unusedSimpArgs false

section
variable {K : Value → World → Prop} {X : (Value → World → Prop) → World → Prop} {w : World} {a b : Value} {x y : Int}
theorem g_ff (h : X K w) : gd (.bool false) false X K w := ⟨h⟩
theorem p_kf (h : K b w) : pk (.bool false) a b K w := h
theorem gtr_no (h : ¬ y < x) (hK : K (.bool false) w) : boI .gtr (I x) (I y) K w := by
  simp only [e_gtr, decide_eq_false h]
  exact hK
theorem neq_no (h : x = y) (hK : K (.bool false) w) : boI .neq (I x) (I y) K w := by
  subst h
  have e : (x != x) = false := by simp
  simp only [e_neq, e]
  exact hK
end
set_option maxRecDepth 100000 in
theorem iv3 : ivK Tryz.prog 91 = some 3 := by kernel_rfl
/-- what the law holds while it asks about the slots -/
structure Bq (Z : (Nat → Prop) → World → Prop) (V : Nat → Prop) (w0 w : World) (V1 : Nat → Prop) (c t3 : Nat) (fv va vt rv : Value) (F0 : Nat → Prop) (σ : Sg) : Prop where
  z : Z V1 w
  hV : ∀ c, V c → V1 c
  rc : Row w c 143 [fv]
  hc : V1 c
  r3 : Row w t3 34 (park.cells va vt)
  h3 : V1 t3
  ha : Ar Att.cells 5 F0 w va park.ats
  ht : Rws F0 w vt park.tr
  f0 : ∀ b, F0 b → V1 b
  ro : Ro V1 w rv σ.rs
  ky : Ky V w0 w
section
variable {V V' V1 V2 S F F0 : Nat → Prop} {W w w0 w' w1 w2 : World} {fv v rv va vt : Value} {ans : Rq → List Int} {Z : (Nat → Prop) → World → Prop} {K : Value → World → Prop} {c t3 t11 : Nat} {σ : Sg}
theorem Bq.step (h : Bq Z V w0 w V1 c t3 fv va vt rv F0 σ) (z : Z V2 w') (hV : ∀ c, V1 c → V2 c) (ky : Ky V1 w w') : Bq Z V w0 w' V2 c t3 fv va vt rv F0 σ := by
  obtain ⟨S, kk, hS⟩ := id ky
  obtain ⟨its, a1, a2, a3⟩ := h.ro
  refine ⟨z, fun c hc => hV c (h.hV c hc), ky.row h.hc h.rc, hV c h.hc, ky.row h.h3 h.r3, hV t3 h.h3, h.ha.kp kk fun b hb => hS b (h.f0 b hb), h.ht.kp kk fun b hb => hS b (h.f0 b hb), fun b hb => hV b (h.f0 b hb), ⟨its, a1, (a2.kp kk fun b hb => hS b hb).mono hV, fun p hp => ((a3 p hp).kp kk fun b hb => hS b hb).mono hV⟩, ?_⟩
  exact h.ky.trans ky h.hV
theorem Bq.emp (s : Srv W fv ans Z) (h : Bq Z V w0 w V1 c t3 fv va vt rv F0 σ) (hk : Kp Emp w w') : Bq Z V w0 w' (fun b => V1 b ∨ Nb w w' b) c t3 fv va vt rv F0 σ :=
  h.step (s.gro (S := Emp) h.z hk fun b q => q.elim) (fun c hc => .inl hc) (Ky.of hk fun _ _ q => q)
/-- the classes of a slot -/
theorem bd_class {a : Nat} {sl : Int} {e0 e1 e2 : Int} {B1 B2 : List Value → World → Prop} (s : Srv W fv ans Z) (g : SGd park σ) (ha : a < park.ats.length) (hb : Bq Z V w0 w V1 c t3 fv va vt rv F0 σ) (r11 : Row w t11 113 park.ats[a].cells) (h11 : V1 t11)
    (he0 : e0 = entered σ.rs (a : Nat) sl 0 0) (he1 : e1 = entered σ.rs (a : Nat) sl 1 0) (he2 : e2 = entered σ.rs (a : Nat) sl 2 0)
    (hK : ∀ w' V2, Bq Z V w0 w' V2 c t3 fv va vt rv F0 σ → Row w' t11 113 park.ats[a].cells → V2 t11 → s35_p14 K B1 B2 (P c 0) (P t3 0) rv (I σ.now) (I (σ.now + 7)) (I (a : Nat)) (P t11 0) (I sl) va (I 3) (I (a : Nat)) w') :
    s35_p16 K B1 B2 (P c 0) (P t3 0) rv (I σ.now) (I (σ.now + 7)) (I (a : Nat)) (P t11 0) (I sl) va (I 3) (I (a : Nat)) (.agg #[I e0, I e1, I e2]) (I 0) w := by
  have hlen := g.len
  have hmb : park.mb = 26 := rfl
  rw [hmb] at hlen
  have hRB := (g.ti park_cv).rb
  have hid : ∀ r ∈ σ.rs, r.id ≠ 0 := fun r hr => by have := (g.pos r hr).1; omega
  unfold s35_p16
  refine loop_n 3 (fun i l w' => ∃ V2, l = [P c 0, P t3 0, rv, I σ.now, I (σ.now + 7), I (a : Nat), P t11 0, I sl, va, I 3, I (a : Nat), .agg #[I e0, I e1, I e2], I (i : Nat)] ∧ Bq Z V w0 w' V2 c t3 fv va vt rv F0 σ ∧ Row w' t11 113 park.ats[a].cells ∧ V2 t11) ⟨V1, rfl, hb, r11, h11⟩ ?_ ?_
  · rintro i l w1 hi ⟨V2, rfl, hb1, q11, v11⟩ B hB
    rw [s35_p16_Fe]
    unfold s35_p15
    have e1' : decide (((i : Nat) : Int) < 3) = true := decide_eq_true (by omega)
    simp only [e_lss, e1', e_ift]
    have hquo := g.ld.quo ((a : Nat) : Int) sl ((i : Nat) : Int) (by omega) (by omega) (by omega) (by omega)
    rw [attOf_at ha] at hquo
    have hv : (#[I e0, I e1, I e2] : Array Value)[((i : Nat) : Int).toNat]? = some (I (entered σ.rs (a : Nat) sl ((i : Nat) : Int) 0)) := by
      have h3 : i = 0 ∨ i = 1 ∨ i = 2 := by omega
      rcases h3 with rfl | rfl | rfl
      · rw [he0]; rfl
      · rw [he1]; rfl
      · rw [he2]; rfl
    refine iv_r iv3 (by omega) (by omega) hv ?_
    refine entL_ok hb1.ro (by omega) hRB hid fun w2 hk2 => ?_
    have hb2 := hb1.emp s hk2
    have q2 := hk2.row' q11
    refine neq_no rfl ?_
    refine g_ff (g_ff (g_ff (fdp ?_)))
    have hqc : park.ats[a].cells[2 + i]? = some (I (attQ park.ats[a] ((i : Nat) : Int))) := by
      have h3 : i = 0 ∨ i = 1 ∨ i = 2 := by omega
      rcases h3 with rfl | rfl | rfl <;> rfl
    refine g_ff (ixp (i := i) (by omega) ?_)
    refine g_ff (ld1_r (v := I (attQ park.ats[a] ((i : Nat) : Int))) q2 hqc ?_)
    refine g_ff (gtr_no (by omega) ?_)
    refine p_kf (sw_f ?_)
    simp only [e_add]
    rw [inc i (by omega)]
    exact hB _ _ ⟨_, rfl, hb2, q2, .inl v11⟩
  · rintro l w1 ⟨V2, rfl, hb1, q11, v11⟩ B
    rw [s35_p16_Fe]
    unfold s35_p15
    have e1' : decide (((3 : Nat) : Int) < 3) = false := by decide
    simp only [e_lss, e1', e_iff]
    exact hK w1 V2 hb1 q11 v11
set_option maxHeartbeats 4000000 in
/-- one slot -/
theorem bd_slot {a : Nat} {sl : Int} {B1 B2 : List Value → World → Prop} (s : Srv W fv ans Z) (HA : ∀ q, QOk q → ans q = eR (ansQ park σ q)) (g : SGd park σ) (ha : a < park.ats.length) (hs : σ.now ≤ sl ∧ sl ≤ σ.now + 7) (hb : Bq Z V w0 w V1 c t3 fv va vt rv F0 σ) (r11 : Row w t11 113 park.ats[a].cells) (h11 : V1 t11)
    (hK : ∀ w' V2, Bq Z V w0 w' V2 c t3 fv va vt rv F0 σ → Row w' t11 113 park.ats[a].cells → V2 t11 → s35_p14 K B1 B2 (P c 0) (P t3 0) rv (I σ.now) (I (σ.now + 7)) (I (a : Nat)) (P t11 0) (I sl) va (I 3) (I (a : Nat)) w') :
    s35_p19 K B1 B2 (P c 0) (P t3 0) rv (I σ.now) (I (σ.now + 7)) (I (a : Nat)) (P t11 0) (I sl) va (I 3) (I (a : Nat)) w := by
  have hlen := g.len
  have hmb : park.mb = 26 := rfl
  rw [hmb] at hlen
  have hn0 := g.now
  have hmc : park.mc = 36 := rfl
  rw [hmc] at hn0
  have hRB := (g.ti park_cv).rb
  have hid : ∀ r ∈ σ.rs, r.id ≠ 0 := fun r hr => by have := (g.pos r hr).1; omega
  have hcap := g.ld.cap ((a : Nat) : Int) sl (by omega) (by omega)
  rw [attOf_at ha] at hcap
  have ha3 : a < 3 := ha
  unfold s35_p19
  refine slot_ok s HA g hb.z hb.rc hb.hc ha3 hs fun w1 V2 iv rv2 wv z1 hV1 ky1 hsc => ?_
  have hb1 := hb.step z1 hV1 ky1
  have q1 := ky1.row h11 r11
  simp only [ex2_0, ex2_1]
  refine nw_r fun w2 r2 hk2 hz2 => ?_
  refine stn_r (cs := ({ rpo 18 with oc := inside park σ.rs (a : Nat) sl 0, e0 := entered σ.rs (a : Nat) sl 0 0, e1 := entered σ.rs (a : Nat) sl 1 0, e2 := entered σ.rs (a : Nat) sl 2 0, fr := (qSlot park (qq 18 0 (a : Nat) sl 0) σ).fr } : Rp).cells iv rv2 wv) r2 rfl (show 0 + 34 ≤ 34 by decide) (Rp.sc hsc.1 hsc.2.1 hsc.2.2) fun w3 r3 hk3 hz3 => ?_
  replace r3 : Row w3 w1.heap.size 94 (({ rpo 18 with oc := inside park σ.rs (a : Nat) sl 0, e0 := entered σ.rs (a : Nat) sl 0 0, e1 := entered σ.rs (a : Nat) sl 1 0, e2 := entered σ.rs (a : Nat) sl 2 0, fr := (qSlot park (qq 18 0 (a : Nat) sl 0) σ).fr } : Rp).cells iv rv2 wv) := r3
  have k13 : Kp Emp w1 w3 := hk2.then hk3 fun b hb (q : b = _) => by omega
  have hb3 := hb1.emp s k13
  have q3 := k13.row' q1
  unfold s35_p18 s35_p18_d
  have kd : Kp Emp w3 (drw w3) := kp_drw
  generalize drw w3 = w4 at kd ⊢
  have hb4 := hb3.emp s kd
  have q4 := kd.row' q3
  have r4 := kd.row' r3
  have s13 := k13.size
  refine ⟨fun w' => Kp Emp w4 w', Kp.refl _ _, ?_⟩
  simp only [e_fne1]
  refine g_ff (fdp ⟨_, fun w' hJ => g_ff (ld1_r (v := I (inside park σ.rs (a : Nat) sl 0)) (hJ.row' r4) rfl ⟨rfl, rfl⟩), ?_⟩)
  refine g_ff (g_ff (g_ff ?_))
  refine g_ff (occL_ok ha3 ⟨by omega, by omega⟩ hb4.ro (by omega) hRB hid fun w5 hk5 => ⟨hk5, ?_⟩)
  have hb5 := hb4.emp s hk5
  have q5 := hk5.row' q4
  have r5 := hk5.row' r4
  refine g_ff (neq_no rfl ?_)
  refine p_kf ?_
  have p17 : s35_p17 K B1 B2 (P c 0) (P t3 0) rv (I σ.now) (I (σ.now + 7)) (I (a : Nat)) (P t11 0) (I sl) (P w1.heap.size 0) va (I 3) (I (a : Nat)) (.bool false) w5 := by
    unfold s35_p17
    refine sw_f ?_
    refine fdp ?_
    refine ldn_r r5 (show 14 + 3 ≤ 34 by decide) ?_
    refine bd_class (e0 := entered σ.rs (a : Nat) sl 0 0) (e1 := entered σ.rs (a : Nat) sl 1 0) (e2 := entered σ.rs (a : Nat) sl 2 0) s g ha hb5 q5 ?_ rfl rfl rfl hK
    exact .inl (.inl (.inl (hV1 _ h11)))
  repeat' first
    | exact p17
    | refine And.intro ?_ ?_
    | refine g_ff (fdp ?_)
    | refine g_ff (ld1_r (v := I (inside park σ.rs (a : Nat) sl 0)) r5 rfl ?_)
    | refine g_ff (ld1_r (v := I park.ats[a].cap) q5 rfl ?_)
    | refine g_ff (gtr_no (by omega) ?_)
    | refine p_kf ?_
set_option maxHeartbeats 4000000 in
/-- the whole test -/
theorem bounded_ok (s : Srv W fv ans Z) (HA : ∀ q, QOk q → ans q = eR (ansQ park σ q)) (g : SGd park σ) (z : Z V w) (rc : Row w c 143 [fv]) (hVc : V c)
    (hK : ∀ w' V', Z V' w' → (∀ c, V c → V' c) → Ky V w w' → K (.bool true) w') : cl Tryz.prog 35 #[P c 0] K w := by
  have hlen := g.len
  have hmb : park.mb = 26 := rfl
  rw [hmb] at hlen
  have hn0 := g.now
  have hmc : park.mc = 36 := rfl
  rw [hmc] at hn0
  have hlt := s.lt z
  apply c35
  unfold s35_p25
  refine park_ok fun w1 l1 hk1 hc1 => ?_
  obtain ⟨va, vt, rfl, ha1, ht1⟩ := hc1.ex
  refine nw_r fun w2 r2 hk2 hz2 => ?_
  refine stn_r (cs := park.cells va vt) r2 rfl (show 0 + 14 ≤ 14 by decide) (by have h1 := ha1.scal; have h2 : scal vt = true := (by obtain ⟨tvs, q1, _⟩ := ht1; exact q1.scal); simp only [Cfg.cells, List.all_cons, List.all_nil, h1, h2]; rfl) fun w3 r3 hk3 hz3 => ?_
  replace r3 : Row w3 w1.heap.size 34 (park.cells va vt) := r3
  have k13 : Kp Emp w1 w3 := hk2.then hk3 fun b hb (q : b = _) => by omega
  have k03 := hk1.trans k13
  have s01 := hk1.size
  have s13 := k13.size
  have z3 := s.gro (S := Emp) z k03 fun b q => q.elim
  have v3 : Nb w w3 w1.heap.size := ⟨by omega, by omega⟩
  refine all_ok s HA g z3 (k03.row' rc) (.inl hVc) fun w4 rv V4 its ob z4 hV4 eits sl4 hob4 hlg4 ky4 => ?_
  simp only [ex2_0, ex2_1]
  have rc4 := ky4.row (.inl hVc) (k03.row' rc)
  refine clock_ok s HA g z4 rc4 (hV4 c (.inl hVc)) fun w5 V5 z5 hV5 ky5 => ?_
  simp only [ex4_0, ex4_1, ex4_2, ex4_3, e_fne1, e_gdff, e_pkf, e_iff]
  have ky35 : Ky (fun b => V b ∨ Nb w w3 b) w3 w5 := ky4.trans ky5 hV4
  have hil : its.length = σ.rs.length := by rw [← eits, List.length_map]
  have ro5 : Ro V5 w5 rv σ.rs := by
    obtain ⟨S, kk, hS⟩ := ky5
    refine ⟨its, eits, ?_, fun p hp => ?_⟩
    · exact ((sl4.ar (F := V4) rC_len (by omega) hob4).kp kk fun b hb => hS b hb).mono hV5
    · exact ((hlg4 p hp).kp kk fun b hb => hS b hb.1).mono fun b hb => hV5 b hb.1
  have hb5 : Bq Z V w w5 V5 c w1.heap.size fv va vt rv (Nb w w1) σ := by
    obtain ⟨S, kk, hS⟩ := id ky35
    have hF : ∀ b, Nb w w1 b → (V b ∨ Nb w w3 b) := fun b hb => .inr ⟨hb.1, by have := hb.2; omega⟩
    exact ⟨z5, fun c hc => hV5 c (hV4 c (.inl hc)), ky5.row (hV4 c (.inl hVc)) rc4, hV5 c (hV4 c (.inl hVc)), ky35.row (.inr v3) r3, hV5 _ (hV4 _ (.inr v3)), (ha1.kp' k13).kp kk fun b hb => hS b (hF b hb), (ht1.kp' k13).kp kk fun b hb => hS b (hF b hb), fun b hb => hV5 b (hV4 b (hF b hb)), ro5,
      (Ky.of (V := V) k03 fun _ _ q => q).trans ky35 fun c hc => .inl hc⟩
  refine fdp (ld1_r (v := va) hb5.r3 rfl ?_)
  refine ha1.ln ?_
  unfold s35_p24
  refine loop_n 3 (fun i l w' => ∃ V1, l = [P c 0, P w1.heap.size 0, rv, I σ.now, I (σ.now + 7), va, I 3, I (i : Nat)] ∧ Bq Z V w w' V1 c w1.heap.size fv va vt rv (Nb w w1) σ) ⟨V5, rfl, hb5⟩ ?_ ?_
  · rintro i l w6 hi ⟨V6, rfl, hb6⟩ B hB
    rw [s35_p24_Fe]
    unfold s35_p23
    have e1' : decide (((i : Nat) : Int) < 3) = true := decide_eq_true (by omega)
    simp only [e_lss, e1', e_ift]
    unfold s35_p22
    have hia : i < park.ats.length := hi
    refine each_r rfl hb6.ha hia rfl rfl fun w7 r7 hk7 hz7 => ?_
    have hb7 := hb6.emp s hk7
    unfold s35_p21
    refine loop_n 8 (fun k l w' => ∃ V1, l = [P c 0, P w1.heap.size 0, rv, I σ.now, I (σ.now + 7), I (i : Nat), P w6.heap.size 0, I (σ.now + ((k : Nat) : Int)), va, I 3, I (i : Nat)] ∧ Bq Z V w w' V1 c w1.heap.size fv va vt rv (Nb w w1) σ ∧ Row w' w6.heap.size 113 park.ats[i].cells ∧ V1 w6.heap.size) ⟨_, by simp, hb7, r7, .inr ⟨Nat.le_refl _, by omega⟩⟩ ?_ ?_
    · rintro k l w8 hk ⟨V8, rfl, hb8, q8, v8⟩ B2 hB2
      rw [s35_p21_Fe]
      unfold s35_p20
      have e2' : decide (σ.now + ((k : Nat) : Int) ≤ σ.now + 7) = true := decide_eq_true (by omega)
      simp only [e_leq, e2', e_ift]
      refine bd_slot s HA g hia ⟨by omega, by omega⟩ hb8 q8 v8 fun w9 V9 hb9 q9 v9 => ?_
      unfold s35_p14
      simp only [e_add]
      rw [wrap64_id (by omega) (by omega), show σ.now + ((k : Nat) : Int) + 1 = σ.now + ((k + 1 : Nat) : Int) by omega]
      exact hB2 _ _ ⟨V9, rfl, hb9, q9, v9⟩
    · rintro l w8 ⟨V8, rfl, hb8, q8, v8⟩ B2
      rw [s35_p21_Fe]
      unfold s35_p20
      have e2' : decide (σ.now + ((8 : Nat) : Int) ≤ σ.now + 7) = false := decide_eq_false (by omega)
      simp only [e_leq, e2', e_iff]
      unfold s35_p13
      simp only [e_add]
      rw [inc i (by omega)]
      exact hB _ _ ⟨V8, rfl, hb8⟩
  · rintro l w6 ⟨V6, rfl, hb6⟩ B
    rw [s35_p24_Fe]
    unfold s35_p23
    have e1' : decide (((3 : Nat) : Int) < 3) = false := by decide
    simp only [e_lss, e1', e_iff]
    refine bd_legs g hb6.r3 hb6.ha hb6.ht hb6.ro fun w7 hk7 => ?_
    have hb7 := hb6.emp s hk7
    exact hK w7 _ hb7.z hb7.hV hb7.ky
end
end Go.Proofs.Qxb6500896aGreat
