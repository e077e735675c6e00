import Derived.Test.Qxb6500896aGreatD4
namespace Go.Proofs.Qxb6500896aGreat
open Go.Sh Go.RowKit
set_option linter.unusedVariables false
set_option linter.unusedSimpArgs false

theorem tOffer_7 {rs : List Rec} {id now : Int} {j : Nat} (hid : id = ((j + 1 : Nat) : Int)) (hj : j < rs.length) (h7 : rs[j].st = 7) : tOffer park rs id (now + 1) (now + park.of) = offF park rs rs[j] 4 (now + 1) := by
  have hh : has rs id := ⟨by omega, by omega⟩
  unfold tOffer
  rw [rget_at hid hj, if_pos ⟨hh, h7⟩]
  have : (now + park.of + 1 - (now + 1)).toNat = 4 := by
    have : park.of = 4 := rfl
    rw [this]; omega
  rw [this]
theorem srvA_some {C : Cfg} {now : Int} {i f : Nat} {s : SrvS} {p : Int × Int} (h : firstOf C s.rs now (lnOf s.ls (i : Nat)) = some p) : srvA C now i (f + 1) s = srvA C now i f ⟨(tIssue p.1 p.2 s.rs).1, tRemove p.1 s.ls, s.iss ++ [⟨p.1, p.2⟩]⟩ := by
  rw [srvA, h]
theorem srvA_none {C : Cfg} {now : Int} {i f : Nat} {s : SrvS} (h : firstOf C s.rs now (lnOf s.ls (i : Nat)) = none) : srvA C now i (f + 1) s = s := by
  rw [srvA, h]
section
variable {V V' V1 S F : Nat → Prop} {W w w' w1 w2 : World} {fv v rv iv lv : Value} {ans : Rq → List Int} {Z : (Nat → Prop) → World → Prop} {X : List (Nat × TypeId × List Value)} {K : Value → World → Prop} {c : Nat} {rob iob : Option Nat} {s : SrvS} {B1 B2 B3 : List Value → World → Prop} {t4 t5 t7 t40 t41 t42 t80 t81 : Value} {seq now : Int} {cf a : Nat} {cc : List Value}
set_option maxHeartbeats 2000000 in
/-- the line is gone through -/
theorem ln_scan (srv : Srv W fv ans Z) (h : Sb Z X rv rob V w iv iob s) (g : Gd park seq now s.rs s.ls) (hX : Row W cf 34 cc) (hcc : cc[9]? = some (I 4)) (ha : a < 3) (hlv : Ar iC 1 (Fz V rob iob) w lv (lnOf s.ls (a : Nat))) (hil : s.iss.length ≤ 1000000)
    (hY : ∀ w' V' lv' iv' iob' p, firstOf park s.rs now (lnOf s.ls (a : Nat)) = some p → Sb Z X rv rob V' w' iv' iob' ⟨(tIssue p.1 p.2 s.rs).1, tRemove p.1 s.ls, s.iss ++ [⟨p.1, p.2⟩]⟩ → (∀ b, V b → V' b) → Ar iC 1 (Fz V' rob iob') w' lv' (lnOf (tRemove p.1 s.ls) (a : Nat)) → B3 [P cf 0, t4, t5, t7, rv, I now, iv', I (a : Nat), lv', .bool true, t40, t41, t42, t80, t81] w')
    (hN : ∀ w', firstOf park s.rs now (lnOf s.ls (a : Nat)) = none → Kp Emp w w' → B3 [P cf 0, t4, t5, t7, rv, I now, iv, I (a : Nat), lv, .bool false, t40, t41, t42, t80, t81] w') :
    s8_p22 K B1 B2 B3 (P cf 0) t4 t5 t7 rv (I now) iv (I (a : Nat)) lv (.bool false) t40 t41 t42 t80 t81 lv (I ((lnOf s.ls (a : Nat)).length : Nat)) (I 0) w := by
  have hn := g.now
  have hmc : park.mc = 36 := rfl
  rw [hmc] at hn
  have hlen := g.len
  have hmb : park.mb = 26 := rfl
  rw [hmb] at hlen
  have hal : a < s.ls.length := by rw [g.li.len]; exact ha
  have eln := lnOf_at hal
  have hat := g.li.at_ a hal
  have hord := g.li.ord _ (List.getElem_mem hal)
  have hmx := g.li.mx _ (List.getElem_mem hal)
  have hmx6 : park.mx ≤ 1000 := by decide
  rw [← eln] at hat hord hmx
  have hrem : ∀ k (hk : k < (lnOf s.ls ((a : Nat) : Int)).length), lnOf (tRemove ((lnOf s.ls ((a : Nat) : Int))[k]) s.ls) ((a : Nat) : Int) = (lnOf s.ls ((a : Nat) : Int)).take k ++ (lnOf s.ls ((a : Nat) : Int)).drop (k + 1) := fun k hk => by rw [lnOf_rem, ln_remove hord hk]
  generalize hline : lnOf s.ls ((a : Nat) : Int) = line at hat hord hmx hrem hlv hY hN ⊢
  unfold s8_p22
  refine loop_n line.length (fun i l w' => l = [P cf 0, t4, t5, t7, rv, I now, iv, I (a : Nat), lv, .bool false, t40, t41, t42, t80, t81, lv, I (line.length : Nat), I (i : Nat)] ∧ Kp Emp w w' ∧ firstOf park s.rs now line = firstOf park s.rs now (line.drop i)) ⟨rfl, Kp.refl _ _, by rw [List.drop_zero]⟩ ?_ ?_
  · rintro i l w1 hi ⟨rfl, k1, he⟩ B hB
    rw [s8_p22_Fe]
    unfold s8_p21
    simp only [dlt hi, e_lss, e_ift]
    unfold s8_p20
    refine (hlv.kp' k1).ix hi fun b1 o1 _ c1 => ?_
    refine c1.ld0 (v := I line[i]) rfl ?_
    obtain ⟨hh, h7, hln⟩ := hat _ (List.getElem_mem hi)
    obtain ⟨j, hid, hj⟩ := has_at hh
    rw [rget_at hid hj] at h7 hln
    simp only [e_sub]
    rw [wrap64_id (by omega) (by omega), show line[i] - 1 = ((j : Nat) : Int) by omega]
    have h1 := h.emp srv k1
    refine h1.at_ hj fun b hb => ?_
    simp only [e_add]
    rw [wrap64_id (by omega) (by omega)]
    have eo := tOffer_7 (now := now) hid hj h7
    refine scan_ok srv h1 g hX hcc ha hb hj h7 hln (fun w2 x hx k2 => ?_) fun w2 hx k2 => ?_
    · have h2 := h1.emp srv k2
      have k12 := k1.trans k2
      have ef : firstOf park s.rs now line = some (line[i], x) := by rw [he, firstOf_some hi (by rw [eo]; exact hx)]
      have hlv2 : Ar iC 1 (Fz (fun b => (V b ∨ Nb w w1 b) ∨ Nb w1 w2 b) rob iob) w2 lv line := (hlv.kp' k12).mono fun b hb => ⟨.inl (.inl hb.1), hb.2⟩
      refine iss_step srv h2 g hlv2 (by omega) hil hi hb hj hid h7 hln fun w3 V3 lv3 iv3 iob3 h3 hV3 a3 _ => ?_
      refine hY w3 V3 lv3 iv3 iob3 (line[i], x) ef h3 (fun b hb => hV3 b (.inl (.inl hb))) ?_
      rw [hrem i hi]
      exact a3
    · unfold s8_p11
      simp only [e_add]
      rw [inc i (by omega)]
      exact hB _ _ ⟨rfl, k1.trans k2, by rw [he, firstOf_none hi (by rw [eo]; exact hx)]⟩
  · rintro l w1 ⟨rfl, k1, he⟩ B
    rw [s8_p22_Fe]
    unfold s8_p21
    simp only [dnlt, e_lss, e_iff]
    rw [List.drop_length] at he
    exact hN w1 he k1
theorem waits_le (rs : List Rec) : waits rs ≤ rs.length := List.countP_le_length
set_option maxHeartbeats 2000000 in
/-- an attraction is served -/
theorem at_serve (srv : Srv W fv ans Z) (h : Sb Z X rv rob V w iv iob s) (g : Gd park seq now s.rs s.ls) (hX : Row W cf 34 cc) (hcc : cc[9]? = some (I 4)) (ha : a < 3) (hlv : Ar iC 1 (Fz V rob iob) w lv (lnOf s.ls (a : Nat))) (hil : s.iss.length + waits s.rs ≤ 26)
    (hK : ∀ w' V' iv' iob', Sb Z X rv rob V' w' iv' iob' (srvA park now a (waits s.rs + 1) s) → (srvA park now a (waits s.rs + 1) s).iss.length + waits (srvA park now a (waits s.rs + 1) s).rs ≤ 26 → s8_p10 K B1 B2 (P cf 0) t4 t5 t7 rv (I now) iv' t40 t41 t42 t80 t81 w') :
    s8_p25 K B1 B2 (P cf 0) t4 t5 t7 rv (I now) iv (I (a : Nat)) lv (.bool true) t40 t41 t42 t80 t81 w := by
  unfold s8_p25
  refine loop_m (waits s.rs + 1) (fun n l w' => ∃ (V' : Nat → Prop) (lv' iv' : Value) (iob' : Option Nat) (s' : SrvS) (f : Bool), l = [P cf 0, t4, t5, t7, rv, I now, iv', I (a : Nat), lv', .bool f, t40, t41, t42, t80, t81] ∧ Sb Z X rv rob V' w' iv' iob' s' ∧ Gd park seq now s'.rs s'.ls ∧ Ar iC 1 (Fz V' rob iob') w' lv' (lnOf s'.ls (a : Nat)) ∧ s'.iss.length + waits s'.rs ≤ 26 ∧
    ((f = true ∧ n = waits s'.rs + 1 ∧ srvA park now a (waits s.rs + 1) s = srvA park now a (waits s'.rs + 1) s') ∨ (f = false ∧ srvA park now a (waits s.rs + 1) s = s'))) ⟨V, lv, iv, iob, s, true, rfl, h, g, hlv, hil, .inl ⟨rfl, rfl, rfl⟩⟩ ?_
  rintro n l w1 ⟨V1, lv1, iv1, iob1, s1, f, rfl, h1, g1, a1, hl1, hor⟩ B hB
  rw [s8_p25_Fe]
  unfold s8_p24
  rcases hor with ⟨rfl, hn, he⟩ | ⟨rfl, he⟩
  · refine sw_t ?_
    unfold s8_p23
    refine a1.ln ?_
    refine ln_scan srv h1 g1 hX hcc ha a1 (by omega) (fun w2 V2 lv2 iv2 iob2 p hp h2 hV2 a2 => ?_) fun w2 hno k2 => ?_
    · rw [srvA_some hp] at he
      obtain ⟨hpm, hpo⟩ := firstOf_mem hp
      obtain ⟨hh, h7, _, _⟩ := tOffer_b hpo
      have hw := tIssue_w (slot := p.2) hh h7
      refine hB (waits s1.rs) _ _ (by omega) ⟨V2, lv2, iv2, iob2, ⟨(tIssue p.1 p.2 s1.rs).1, tRemove p.1 s1.ls, s1.iss ++ [⟨p.1, p.2⟩]⟩, true, rfl, h2, g1.issue park_cv hpo, a2, ?_, .inl ⟨rfl, by simp only; omega, ?_⟩⟩
      · simp only [List.length_append, List.length_singleton]; omega
      · rw [he]; simp only; rw [hw]
    · rw [srvA_none hno] at he
      have h2 := h1.emp srv k2
      exact hB 0 _ _ (by omega) ⟨_, lv1, iv1, iob1, s1, false, rfl, h2, g1, (a1.kp' k2).mono fun b hb => ⟨.inl hb.1, hb.2⟩, hl1, .inr ⟨rfl, he⟩⟩
  · refine sw_f ?_
    rw [he] at hK
    exact hK w1 V1 iv1 iob1 h1 hl1
end
end Go.Proofs.Qxb6500896aGreat
