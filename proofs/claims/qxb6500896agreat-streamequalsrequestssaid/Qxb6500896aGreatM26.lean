import Derived.Test.Qxb6500896aGreatM25
namespace Go.Proofs.Qxb6500896aGreat
open Go.Sh Go.RowKit
set_option linter.unusedVariables false
set_option linter.unusedSimpArgs false

theorem fndM_s {rs : List Rec} {a : Nat} {cl sz frm x : Int} {n : Nat} : fndM rs a cl sz frm (n + 1) x = if frm ≤ x ∧ fP rs a cl sz x then some x else fndM rs a cl sz frm n (x + 1) := rfl
section
variable {O G O2 O' S F : Nat → Prop} {w w' w0 w1 : World} {m c ib rb lb a j : Nat} {now n : Int} {rv lv v1 : Value} {s s2 : Ms} {K : Value → World → Prop} {X : World → Prop} {seq : Int} {σ : Sg} {q : Rq} {id st op : Int} {B1 : List Value → World → Prop}
set_option maxHeartbeats 2000000 in
theorem findM_ok (h : Mw O G w0 O' w m σ.ms) (g : SGd park σ) (hq : q.op = 21) (hN : XprN q) (hK : MK O G w0 m K σ.ms (quM q σ)) : cl Tryz.prog 100 #[P m 0, I q.at', I q.cl, I q.sz, I q.sl] K w := by
  have hm : Mk σ.ms := MG.mk ⟨_, g⟩
  have h3 : park.ats.length = 3 := rfl
  have hlen := g.len
  have hmb : park.mb = 26 := rfl
  rw [hmb] at hlen
  have hn := g.now
  have hmc : park.mc = 36 := rfl
  rw [hmc] at hn
  have ev : valid park σ.now q = (if hasA park q.at' = true then vParty park q.cl q.sz else 13) := by
    unfold valid; rw [if_neg (by omega), if_neg (by omega), if_pos (.inr hq)]
  have ha0 := hN.at'.1
  unfold quM at hK
  rw [ev] at hK
  apply c100
  unfold s100_p4
  refine nk0 (fdp (fdp ((h.mr g).ats ?_)))
  simp only [e_geq]
  by_cases ha : q.at' < 3
  case neg =>
    have e0 : decide (((3 : Nat) : Int) ≤ q.at') = true := decide_eq_true (by omega)
    simp only [e0, e_ift]
    have eh : hasA park q.at' = false := by unfold hasA; rw [h3, decide_eq_false (show ¬ q.at' < ((3 : Nat) : Int) by omega), Bool.and_false]
    rw [eh] at hK
    exact no_ok (by decide) (h.out hK)
  have e0 : decide (((3 : Nat) : Int) ≤ q.at') = false := decide_eq_false (by omega)
  simp only [e0, e_iff]
  have eh : hasA park q.at' = true := by unfold hasA; rw [h3, decide_eq_true ha0, decide_eq_true (show q.at' < ((3 : Nat) : Int) by omega)]; rfl
  rw [if_pos eh] at hK
  refine party_ok (h.mr g) hN.cl.1 hN.sz.1 ?_
  simp only [e_neq]
  by_cases hp : vParty park q.cl q.sz = 0
  case neg =>
    have e1 : (vParty park q.cl q.sz != 0) = true := bne_iff_ne.2 hp
    simp only [e1, e_ift]
    rw [if_neg hp] at hK
    exact no_ok vP_rng (h.out hK)
  have e1 : (vParty park q.cl q.sz != 0) = false := by rw [hp]; rfl
  simp only [e1, e_iff]
  rw [if_pos hp] at hK
  have hpc : (0 ≤ q.cl ∧ q.cl < 3) ∧ 1 ≤ q.sz ∧ q.sz ≤ 5 := by
    unfold vParty at hp
    have : park.mp = 5 := rfl
    rw [this] at hp
    split at hp
    · rename_i h1
      split at hp
      · rename_i h2; exact ⟨h1, h2⟩
      · exact absurd hp (by decide)
    · exact absurd hp (by decide)
  obtain ⟨hcl, hsz⟩ := hpc
  obtain ⟨a, ea⟩ : ∃ a : Nat, q.at' = (a : Int) := ⟨q.at'.toNat, by omega⟩
  have ha3 : a < 3 := by omega
  obtain ⟨⟨d1, d2⟩, c1, c2⟩ := att_s ha3
  have hl16 : σ.rs.length ≤ 16777216 := by omega
  have hfe := find_eq (rs := σ.rs) (cl := q.cl) (sz := q.sz) ha3 (frm := q.sl) (now := σ.now) (fun x => (ins_b (C := park) hm.vk.rb hl16 (a : Nat) x 0).1) (fun x => (ent_b hm.vk.rb hl16 (a : Nat) x q.cl 0).1) d1
  have hK' : MK O G w0 m K σ.ms (match fndM σ.rs a q.cl q.sz q.sl 8 σ.now with | some s => [0, 21] ++ uI s | none => [22]) := by
    rw [← hfe]
    unfold qR qFind fndFrom at hK
    rw [if_neg (by omega), if_neg (by omega), if_neg (by omega), if_neg (by omega), if_neg (by omega), if_pos hq, ea] at hK
    have h8 : park.hz = 8 := rfl
    rw [h8] at hK
    by_cases hbig : (attOf park (a : Nat)).cap < q.sz ∨ attQ (attOf park (a : Nat)) q.cl < q.sz
    · rw [if_pos hbig, eR_rf (by decide)] at hK
      rw [if_pos hbig]
      exact hK
    · rw [if_neg hbig] at hK ⊢
      cases hff : fndF park σ.rs (a : Nat) q.cl q.sz (σ.now + 8 - 1 + (attOf park (a : Nat)).dw - (if q.sl < σ.now then σ.now else q.sl)).toNat 0 (if q.sl < σ.now then σ.now else q.sl) with
      | none => rw [hff] at hK; simp only at hK; rw [eR_rf (by decide)] at hK; exact hK
      | some s => rw [hff] at hK; simp only at hK; rw [eR_21 rfl hq] at hK; exact hK
  clear hK
  rw [ea]
  refine nk0 (fdp (h.mo.nw ?_))
  unfold s100_p3
  refine loop_m 8 (fun n l w' => ∃ k : Nat, n + k = 8 ∧ l = [P m 0, I (a : Nat), I q.cl, I q.sz, I q.sl, I (σ.now + ((k : Nat) : Int))] ∧ Kp Emp w w' ∧ fndM σ.rs a q.cl q.sz q.sl 8 σ.now = fndM σ.rs a q.cl q.sz q.sl n (σ.now + ((k : Nat) : Int))) ⟨0, rfl, by simp, Kp.refl _ _, by simp⟩ ?_
  rintro n l w1 ⟨k, hnk, rfl, k1, he⟩ B hB
  rw [s100_p3_Fe]
  unfold s100_p2
  have h1 := h.emp k1
  refine openM_ok (h1.mr g) (by show 0 ≤ σ.now ∧ σ.now ≤ 1000; omega) ⟨by omega, by omega⟩ fun w2 k2 => ?_
  have h2 := h1.emp k2
  have h8 : park.hz = 8 := rfl
  cases n with
  | zero =>
    have ho : isO park σ.ms.now (σ.now + ((k : Nat) : Int)) = false := by
      unfold isO
      rw [h8, decide_eq_false (show ¬ σ.now + ((k : Nat) : Int) - σ.ms.now < 8 by show ¬ σ.now + ((k : Nat) : Int) - σ.now < 8; omega), Bool.and_false]
    simp only [ho, e_iff]
    unfold s100_p1
    rw [he, fndM] at hK'
    exact no_ok (by decide) (h2.out hK')
  | succ n =>
    have ho : isO park σ.ms.now (σ.now + ((k : Nat) : Int)) = true := by
      unfold isO
      rw [h8, decide_eq_true (show σ.now + ((k : Nat) : Int) - σ.ms.now < 8 by show σ.now + ((k : Nat) : Int) - σ.now < 8; omega), decide_eq_true (show σ.ms.now ≤ σ.now + ((k : Nat) : Int) by show σ.now ≤ _; omega)]
      rfl
    simp only [ho, e_ift, e_geq]
    by_cases hfr : q.sl ≤ σ.now + ((k : Nat) : Int)
    case neg =>
      simp only [decide_eq_false hfr, e_gdft, e_pkf, e_iff, e_add]
      rw [wrap64_id (by omega) (by omega)]
      refine hB n _ _ (by omega) ⟨k + 1, by omega, by rw [show σ.now + ((k : Nat) : Int) + 1 = σ.now + ((k + 1 : Nat) : Int) by omega], k1.trans k2, ?_⟩
      rw [he, fndM_s, if_neg (fun q => hfr q.1), show σ.now + ((k : Nat) : Int) + 1 = σ.now + ((k + 1 : Nat) : Int) by omega]
    simp only [decide_eq_true hfr, e_gdtt, e_pkt]
    refine bdq_r leg_fill ?_
    refine leg_new fun w3 a3 hk3 hz3 => ?_
    refine bdq_r (l := rC (⟨0, 1, q.cl, q.sz, 0, 0, [⟨(a : Nat), σ.now + ((k : Nat) : Int)⟩]⟩, .slice (some ⟨w2.heap.size, 0, none⟩) 1 1)) rfl ?_
    have h3' := h2.emp hk3
    refine with_ok (r := ⟨0, 1, q.cl, q.sz, 0, 0, [⟨(a : Nat), σ.now + ((k : Nat) : Int)⟩]⟩) h3'.mo hm a3 (fun b (r : b = w2.heap.size) => ⟨by omega, fun r2 => by have := h2.mo.lt b (.inr r2); omega⟩) fun w4 c h4 hk4 => ?_
    have lb : LegB [⟨((a : Nat) : Int), σ.now + ((k : Nat) : Int)⟩] := fun l hl => by
      rw [List.mem_singleton.1 hl]
      exact ⟨⟨by simp only; omega, by simp only; omega⟩, by simp only; omega, by simp only; omega⟩
    have hvk : Vk (σ.rs ++ [⟨((σ.rs.length + 1 : Nat) : Int), 1, q.cl, q.sz, 0, 0, [⟨(a : Nat), σ.now + ((k : Nat) : Int)⟩]⟩]) :=
      vk_add hm.vk (by show σ.rs.length < 1000; omega) (RL.mk' (now := σ.now) ⟨by omega, by omega⟩ ⟨by decide, by decide⟩ hcl hsz ⟨by decide, by decide⟩ ⟨by decide, by decide⟩ lb (by simp)) (by simp only; omega)
    refine verdM_ok (h4.mrv hvk hm.ln hm.ll) hvk fun w5 hk5 => ?_
    have evd : verd (σ.rs ++ [⟨((σ.rs.length + 1 : Nat) : Int), 1, q.cl, q.sz, 0, 0, [⟨(a : Nat), σ.now + ((k : Nat) : Int)⟩]⟩]) = fits park σ.rs q.cl q.sz [⟨(a : Nat), σ.now + ((k : Nat) : Int)⟩] 0 := verd_add (r := ⟨((σ.rs.length + 1 : Nat) : Int), 1, q.cl, q.sz, 0, 0, [⟨(a : Nat), σ.now + ((k : Nat) : Int)⟩]⟩) g.ld rfl (by simp only; omega) lb hcl
    simp only [evd, e_eql]
    have k5 := ((k1.trans k2).trans hk3).trans (hk4.trans hk5)
    by_cases hf : fits park σ.rs q.cl q.sz [⟨(a : Nat), σ.now + ((k : Nat) : Int)⟩] 0 = 0
    · have e3 : (fits park σ.rs q.cl q.sz [⟨(a : Nat), σ.now + ((k : Nat) : Int)⟩] 0 == 0) = true := by rw [hf]; rfl
      simp only [e3, e_ift]
      rw [he, fndM_s, if_pos ⟨hfr, hf⟩] at hK'
      exact yes_1 (op := 21) (h.emp k5) ⟨by omega, by omega⟩ hK'
    · have e3 : (fits park σ.rs q.cl q.sz [⟨(a : Nat), σ.now + ((k : Nat) : Int)⟩] 0 == 0) = false := by rw [beq_eq_false_iff_ne]; exact hf
      simp only [e3, e_iff, e_add]
      rw [wrap64_id (by omega) (by omega)]
      refine hB n _ _ (by omega) ⟨k + 1, by omega, by rw [show σ.now + ((k : Nat) : Int) + 1 = σ.now + ((k + 1 : Nat) : Int) by omega], k5, ?_⟩
      rw [he, fndM_s, if_neg (fun q => hf q.2), show σ.now + ((k : Nat) : Int) + 1 = σ.now + ((k + 1 : Nat) : Int) by omega]
end
end Go.Proofs.Qxb6500896aGreat
