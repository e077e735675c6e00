import Derived.Test.Qxb6500896aGreatM17
namespace Go.Proofs.Qxb6500896aGreat
open Go.Sh Go.RowKit
set_option linter.unusedVariables false
set_option linter.unusedSimpArgs false

/-- a change as the model answers it -/
def chM (q : Rq) (σ : Sg) : Sg × Rp := if valid park σ.now q = 0 then apS park q σ else (σ, rf (valid park σ.now q))
theorem eR_1 {p : Rp} (h : p.code = 0) (ho : p.op = 1) : eR p = [0, 1] ++ (uI p.id ++ uI p.ex) := by
  rw [eR_0 h, ho]
  unfold eB
  rw [if_pos (.inl ho)]
theorem eR_6 {p : Rp} (h : p.code = 0) (ho : p.op = 6) : eR p = [0, 6] ++ (uI p.id ++ uI p.pos) := by
  rw [eR_0 h, ho]
  unfold eB
  rw [if_neg (by omega), if_pos ho]
theorem LO2.lb {now : Int} {ls : List Leg} (h : LO2 park now ls) (hn : 0 ≤ now ∧ now ≤ 36) : LegB ls := fun l hl => by
  have h1 := h.lv l hl
  have h3 : park.ats.length = 3 := rfl
  have h8 : park.hz = 8 := rfl
  rw [h3, h8] at h1
  omega
theorem vk_add {rs : List Rec} {r : Rec} (h : Vk rs) (hl : rs.length < 1000) (hr : RL park r) (hi : r.id ≠ 0) : Vk (rs ++ [r]) := by
  refine ⟨fun x hx => ?_, fun x hx => ?_, by rw [List.length_append, List.length_singleton]; omega⟩
  · rcases List.mem_append.1 hx with q | q
    · exact h.rl x q
    · rw [List.mem_singleton.1 q]; exact hr
  · rcases List.mem_append.1 hx with q | q
    · exact h.id x q
    · rw [List.mem_singleton.1 q]; exact hi
theorem RL.mk' {id st cl sz ln ex now : Int} {ls : List Leg} (h1 : N63 id) (h2 : N63 st) (hc : 0 ≤ cl ∧ cl < 3) (hs : 1 ≤ sz ∧ sz ≤ 5) (h5 : N63 ln) (h6 : N63 ex) (hl : LegB ls) (hll : ls.length ≤ 8) : RL park ⟨id, st, cl, sz, ln, ex, ls⟩ := by
  have h3 : park.ats.length = 3 := rfl
  refine ⟨⟨by simp only; omega, by simp only; omega, hll, fun l hl' => ?_⟩, ⟨h1, h2, ⟨by simp only; omega, by simp only; omega⟩, ⟨by simp only; omega, by simp only; omega⟩, h5, h6, fun l hl' => ?_, hll⟩, hc.2, fun l hl' => ?_⟩
  · have := hl l hl'; omega
  · have := hl l hl'; exact ⟨⟨by omega, by omega⟩, by omega, by omega⟩
  · have := hl l hl'; omega
section
variable {O G O2 O' S F : Nat → Prop} {w w' w0 : World} {m c ib rb j : Nat} {s s2 : Ms} {K : Value → World → Prop} {X : World → Prop} {seq : Int} {σ : Sg} {q : Rq} {id st op : Int} {lv : Value}
theorem Mo.mrv (h : Mo O G w m s) (hv : Vk s.rs) (hl : s.ls.length = 3) (h3 : ∀ l ∈ s.ls, l.length ≤ 1000) : Mr (fun b => O b ∨ G b) w m s := h.mr hv.len (by omega) fun l hl => by have := h3 l hl; omega
theorem vP_rng {cls sz : Int} : 0 ≤ vParty park cls sz ∧ vParty park cls sz ≤ 255 := by
  unfold vParty; repeat' split
  all_goals decide
theorem vL_rng {now : Int} {ls : List Leg} : 0 ≤ vLegs park now ls ∧ vLegs park now ls ≤ 255 := by
  unfold vLegs; repeat' split
  all_goals decide
theorem fits_rng {rs : List Rec} {cls sz skip : Int} {ls : List Leg} : 0 ≤ fits park rs cls sz ls skip ∧ fits park rs cls sz ls skip ≤ 255 := by
  unfold fits; repeat' split
  all_goals decide
set_option maxHeartbeats 2000000 in
theorem hold_m (h : Mw O G w0 O' w m σ.ms) (g : SGd park σ) (hq : q.op = 1) (hc : 0 ≤ q.cl) (hs : 0 ≤ q.sz) (hl : Ar lC 2 F w lv q.legs) (hF : ∀ b, F b → Nb w0 w b ∧ ¬ O' b) (hll : q.legs.length ≤ 1000) (hr : ∀ l ∈ q.legs, N63 l.a ∧ N63 l.s)
    (hK : MK O G w0 m K (chM q σ).1.ms (eR (chM q σ).2)) : cl Tryz.prog 86 #[P m 0, I q.cl, I q.sz, lv] K w := by
  have hm : Mk σ.ms := MG.mk ⟨_, g⟩
  have hlen := g.len
  have hmb : park.mb = 26 := rfl
  rw [hmb] at hlen
  have hn := g.now
  have hmc : park.mc = 36 := rfl
  rw [hmc] at hn
  unfold chM at hK
  have ev : valid park σ.now q = (if vParty park q.cl q.sz = 0 then vLegs park σ.now q.legs else vParty park q.cl q.sz) := by
    unfold valid; rw [if_pos (.inl hq)]
  rw [ev] at hK
  apply c86
  unfold s86_p7
  refine party_ok (h.mr g) hc hs ?_
  simp only [e_neq]
  by_cases hp : vParty park q.cl q.sz = 0
  case neg =>
    have e0 : (vParty park q.cl q.sz != 0) = true := bne_iff_ne.2 hp
    simp only [e0, e_ift]
    rw [if_neg hp, if_neg hp, eR_rf hp] at hK
    exact no_ok vP_rng (h.out hK)
  have e0 : (vParty park q.cl q.sz != 0) = false := by rw [hp]; rfl
  simp only [e0, e_iff]
  rw [if_pos hp] at hK
  refine ticket_ok (h.mr g) (by show 0 ≤ σ.now ∧ σ.now ≤ 1000; omega) hl hll hr fun w1 k1 => ?_
  have h1 := h.emp k1
  simp only [e_neq]
  by_cases ht : vLegs park σ.now q.legs = 0
  case neg =>
    have e1 : (vLegs park σ.ms.now q.legs != 0) = true := bne_iff_ne.2 ht
    simp only [e1, e_ift]
    rw [if_neg ht, eR_rf ht] at hK
    exact no_ok vL_rng (h1.out hK)
  have e1 : (vLegs park σ.ms.now q.legs != 0) = false := by show (vLegs park σ.now q.legs != 0) = false; rw [ht]; rfl
  simp only [e1, e_iff]
  rw [if_pos ht] at hK
  have hv0 : valid park σ.now q = 0 := by rw [ev, if_pos hp]; exact ht
  obtain ⟨⟨pc, ps⟩, lo⟩ := valid_hold hv0 (.inl hq)
  have hmp : park.mp = 5 := rfl
  rw [hmp] at ps
  have lb := lo.lb hn
  unfold apS at hK
  rw [if_pos hq] at hK
  unfold s86_p6 s86_p6_d
  have kd : Kp Emp w1 (drw w1) := kp_drw
  generalize drw w1 = w2 at kd ⊢
  have h2 := h1.emp kd
  have hl2 := (hl.kp' k1).kp' kd
  refine nk0 (fdp ?_)
  obtain ⟨va, vt, rv, lv', rob, lob, its, pps, x, ee1, ee2⟩ := h2.mo
  have hil : its.length = σ.rs.length := by rw [← show its.map (·.1) = σ.rs from ee1, List.length_map]
  refine ld1_r (v := rv) x.row rfl (x.rsl.ln ?_)
  rw [hil]
  refine nk0 (fdp (fdp (h2.mo.cf (n := 26) (fun _ _ _ _ => rfl) ?_)))
  simp only [e_geq]
  unfold s86_p5
  unfold hoR tHoldR tHold tCheck at hK
  rw [hmb] at hK
  by_cases hb : 26 ≤ ((σ.rs.length : Nat) : Int)
  · have e2 : decide (26 ≤ ((σ.rs.length : Nat) : Int)) = true := decide_eq_true hb
    simp only [e2, e_ift]
    simp only [if_pos hb, show ¬ ((9 : Int) = 0) by decide, if_false] at hK
    rw [eR_rf (by decide)] at hK
    exact no_ok (by decide) (h2.out hK)
  have e2 : decide (26 ≤ ((σ.rs.length : Nat) : Int)) = false := decide_eq_false hb
  simp only [e2, e_iff]
  simp only [if_neg hb] at hK
  clear x ee1 ee2 hil
  unfold s86_p4 s86_p4_d
  have kd2 : Kp Emp w2 (drw w2) := kp_drw
  generalize drw w2 = w3 at kd2 ⊢
  have h3 := h2.emp kd2
  have hl3 := hl2.kp' kd2
  refine nk0 (fdp (h3.mo.nw ?_))
  refine nk0 (fdp (fdp (h3.mo.cf (n := 3) (fun _ _ _ _ => rfl) ?_)))
  simp only [e_add]
  rw [wrap64_id (by show -9223372036854775808 ≤ σ.now + 3; omega) (by show σ.now + 3 ≤ 9223372036854775807; omega)]
  refine bdq_r (l := rC (⟨0, 1, q.cl, q.sz, 0, σ.now + 3, q.legs⟩, lv)) (by obtain ⟨a, cap, e⟩ := hl.form; rw [e]; rfl) ?_
  have s3 := ((k1.trans kd).trans kd2).size
  refine with_ok (r := ⟨0, 1, q.cl, q.sz, 0, σ.now + 3, q.legs⟩) h3.mo hm hl3 (fun b q => ⟨by have := (hF b q).1.2; omega, fun r => by have := h.g b r; have := (hF b q).1.1; omega⟩) fun w4 c h4 hk4 => ?_
  unfold s86_p3
  have hvk : Vk (σ.rs ++ [⟨((σ.rs.length + 1 : Nat) : Int), 1, q.cl, q.sz, 0, σ.now + 3, q.legs⟩]) := by
    have h5 := lo.l1
    have hml : park.ml = 3 := rfl
    rw [hml] at h5
    exact vk_add hm.vk (by show σ.rs.length < 1000; omega) (RL.mk' (now := σ.now) ⟨by omega, by omega⟩ ⟨by decide, by decide⟩ pc ps ⟨by decide, by decide⟩ ⟨by omega, by omega⟩ lb (by omega)) (by simp only; omega)
  refine verdM_ok (h4.mrv hvk hm.ln hm.ll) hvk fun w5 hk5 => ?_
  have evd : verd (σ.rs ++ [⟨((σ.rs.length + 1 : Nat) : Int), 1, q.cl, q.sz, 0, σ.now + 3, q.legs⟩]) = fits park σ.rs q.cl q.sz q.legs 0 := verd_add (r := ⟨((σ.rs.length + 1 : Nat) : Int), 1, q.cl, q.sz, 0, σ.now + 3, q.legs⟩) g.ld rfl (by simp only; omega) lb pc
  simp only [evd, e_neq]
  have h5 := (h3.emp hk4).emp hk5
  by_cases hf : fits park σ.rs q.cl q.sz q.legs 0 = 0
  case neg =>
    have e3 : (fits park σ.rs q.cl q.sz q.legs 0 != 0) = true := bne_iff_ne.2 hf
    simp only [e3, e_ift]
    simp only [if_neg hf] at hK
    rw [eR_rf hf] at hK
    exact no_ok fits_rng (h5.out hK)
  have e3 : (fits park σ.rs q.cl q.sz q.legs 0 != 0) = false := by rw [hf]; rfl
  simp only [e3, e_iff]
  simp only [hf, if_true] at hK
  have o3 : ∀ b, O' b → b < w3.heap.size := fun b q => h3.mo.lt b (.inl q)
  have s03 := h3.k.size
  have s45 := hk5.size
  refine h5.copy (h4.kp' hk5) (fun b q r => ?_) (fun b q => ?_) fun w6 h6 hk6 hz6 => ?_
  · rcases q with q | q
    · exact (hF b q).2 r
    · have := q.1; have := o3 b r; omega
  · have s34 := hk4.size
    rcases q with q | q
    · exact ⟨(hF b q).1.1, by have := (hF b q).1.2; omega⟩
    · exact ⟨by have := q.1; omega, by have := q.2; omega⟩
  unfold s86_p2 s86_p2_d
  have kd3 : Kp Emp w6 (drw w6) := kp_drw
  generalize drw w6 = w7 at kd3 ⊢
  have h7 := h6.emp kd3
  refine nk0 (fdp ?_)
  obtain ⟨va, vt, rv, lv', rob, lob, its, pps, x, ee1, ee2⟩ := h7.mo
  have hil : its.length = σ.rs.length + 1 := by rw [← List.length_map (f := (·.1)), ee1, List.length_append]; rfl
  refine ld1_r (v := rv) x.row rfl (x.rsl.ln ?_)
  rw [hil]
  refine nk0 (fdp (h7.mo.nw ?_))
  refine nk0 (fdp (fdp (h7.mo.cf (n := 3) (fun _ _ _ _ => rfl) ?_)))
  simp only [e_add]
  rw [wrap64_id (by show -9223372036854775808 ≤ σ.now + 3; omega) (by show σ.now + 3 ≤ 9223372036854775807; omega)]
  unfold s86_p1
  refine yes_2 (op := 1) h7 ⟨by omega, by omega⟩ ⟨by show 0 ≤ σ.now + 3; omega, by show σ.now + 3 ≤ 9223372036854775807; omega⟩ ?_
  rw [eR_1] at hK
  · exact hK
  · rfl
  · exact hq
end
end Go.Proofs.Qxb6500896aGreat
