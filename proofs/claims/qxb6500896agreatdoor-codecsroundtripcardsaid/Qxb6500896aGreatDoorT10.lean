import Derived.Test.Qxb6500896aGreatDoorT9
namespace Go.Proofs.Qxb6500896aGreatDoor
open Go.Sh Go.RowKit
set_option linter.unusedVariables false
set_option linter.unusedSimpArgs false

section
variable {w w' w0 : World} {K : Value → World → Prop} {v : Value} {F : Nat → Prop} {xs : List Int}
theorem ts_end {w0 : World} {t kb : Nat} {n1 : Int} {sv rv lv : Value} {x y z : Int} {rob : Option Nat} {its : List (Rec × Value)} {T : TypeId} (h : Tx w0 w t 1 200 kb 141 (imC x y z rv lv) []) (hs : Ar bC 1 F w' sv xs) (hl : xs.length ≤ 10000000) (hr : Sl rC 7 w0 T rob rv its) (hrl : its.length ≤ 140737488355328) (hn : -9223372036854775808 ≤ n1 ∧ n1 ≤ 9223372036854775807)
    (hK : ∀ w' (s : ByteArray), Kp Emp w0 w' → s.size ≤ 100000000 → K (.string s) w') : s60_p1 K sv (P kb 0) (I n1) (P t 0) w := by
  unfold s60_p1
  refine fdp (ld1_r (v := rv) h.kr rfl ?_)
  refine (hr.kp' h.k).ln ?_
  have e1 : (⟨#[114, 101, 99, 111, 114, 100, 115]⟩ : ByteArray).size = 7 := rfl
  have e2 : (⟨#[119, 97, 105, 116, 105, 110, 103]⟩ : ByteArray).size = 7 := rfl
  have e3 : (⟨#[98, 121, 116, 101, 115]⟩ : ByteArray).size = 5 := rfl
  refine field_ok h (by omega) ⟨by omega, by omega⟩ fun w1 h1 => ?_
  refine field_ok h1 (by omega) hn fun w2 h2 => ?_
  refine hs.ln ?_
  refine field_ok h2 (by omega) ⟨by omega, by omega⟩ fun w3 h3 => ?_
  refine string_ok h3 (Nat.le_refl _) fun s h1 h2 => ?_
  exact hK w3 s h3.k (by omega)
/-- a snapshot in words -/
theorem traceSnapshot_ok (h : Ar bC 1 F w v xs) (hF : ∀ b, F b → b < w.heap.size) (hb : By xs) (hl : xs.length ≤ 1000000) (hK : ∀ w' (s : ByteArray), Kp Emp w w' → s.size ≤ 100000000 → K (.string s) w') : cl Tryz.prog 60 #[v] K w := by
  apply c60
  unfold s60_p6
  refine decImg_ok h hb hF (by omega) (fun hno w1 hk1 => ?_) fun hyes w1 rv lv hk1 him => ?_
  · simp only [ex2_0, ex2_1]
    refine nw_r fun w2 r2 hk2 hz2 => ?_
    refine stn_r (cs := imC 0 0 0 nilS nilS) r2 rfl (show 0 + 5 ≤ 5 by decide) rfl fun w3 r3 hk3 hz3 => ?_
    have k3 : Kp Emp w w3 := (hk1.trans hk2).then hk3 fun c hc (q : c = _) => by have := hk1.size; omega
    have sz3 := k3.size
    simp only [Bool.not_false, e_fd, e_nck, e_pkt, e_pkf, e_gdtt, e_gdtf, e_gdft, e_gdff, e_ift, e_iff, e_not, e_ln, e_lnT, e_cp, e_cvi, e_ex20, e_ex21, e_ex30, e_ex31, e_ex32, e_add, e_sub, e_mul, e_quo, e_rem, e_and, e_or, e_xor, e_shl, e_shr, e_eql, e_neq, e_lss, e_leq, e_gtr, e_geq, e_beq, e_bne, e_peq1, e_peq2, e_pne1, e_pne2, e_zeq1, e_zeq2, e_zne1, e_zne2, e_feq1, e_fne1, e_feq2, e_fne2, e_seq, e_sne, e_ta1, e_ta2, Nat.zero_add, Nat.add_zero, Bool.not_true, Bool.not_false]
    refine hex_ok (h.kp' k3) (fun b q => by have := hF b q; omega) hb (by omega) fun w4 s hk4 hs => ?_
    have e1 : (⟨#[115, 110, 97, 112, 115, 104, 111, 116, 32, 117, 110, 114, 101, 97, 100, 97, 98, 108, 101, 32]⟩ : ByteArray).size = 20 := rfl
    refine cat_r (by omega) fun z hz => ?_
    exact hK w4 z (k3.trans hk4) (by omega)
  · obtain ⟨iN, _⟩ := decImg_N hl hyes
    have hlen := decImg_rl hl hyes
    generalize (decImg xs).1 = im at him iN hlen ⊢
    obtain ⟨hrl, hll⟩ := hlen
    obtain ⟨N, rob, its, wb, lms, e1, s1, hrob, hlegs, rfl, hNN, e5, r5, hl5, hpw⟩ := him.ex
    have hil : its.length = im.rs.length := by rw [← e1, List.length_map]
    have hml : lms.length = im.ls.length := by rw [← e5, List.length_map]
    simp only [ex2_0, ex2_1]
    refine nw_r fun w2 r2 hk2 hz2 => ?_
    refine stn_r (cs := imC im.rules im.seq im.now rv (.slice (some ⟨wb, 0, none⟩) im.ls.length im.ls.length)) r2 rfl (show 0 + 5 ≤ 5 by decide) (by simp only [imC, List.all_cons, List.all_nil, sl_scal s1]; rfl) fun w3 r3 hk3 hz3 => ?_
    replace r3 : Row w3 w1.heap.size 141 (imC im.rules im.seq im.now rv (.slice (some ⟨wb, 0, none⟩) im.ls.length im.ls.length)) := r3
    have k13 : Kp Emp w1 w3 := hk2.then hk3 fun c hc (q : c = _) => by omega
    have k3 : Kp Emp w w3 := hk1.trans k13
    have sz3 := k3.size
    simp only [Bool.not_true, e_not, e_iff]
    refine fdp (ld1_r (v := .slice (some ⟨wb, 0, none⟩) im.ls.length im.ls.length) r3 rfl ?_)
    have hvl : (lms.map Lm.val).length = im.ls.length := by rw [List.length_map, hml]
    have ar : Ar one 1 (fun _ => True) w3 (.slice (some ⟨wb, 0, none⟩) im.ls.length im.ls.length) (lms.map Lm.val) := by
      have := Ar.row (F := fun _ => True) (f := one) (k := 1) one_len (xs := lms.map Lm.val) (e := 43) (b := wb) (w := w3) (by rw [rows_one]; exact k13.row' r5) trivial (by rw [hvl]; omega)
      rw [hvl] at this
      exact this
    refine ar.ln ?_
    rw [hvl]
    unfold s60_p5
    refine loop_n im.ls.length (fun i l w' => ∃ s : Int, l = [v, P w1.heap.size 0, I s, .slice (some ⟨wb, 0, none⟩) im.ls.length im.ls.length, I (im.ls.length : Nat), I (i : Nat)] ∧ (-9223372036854775808 ≤ s ∧ s ≤ 9223372036854775807) ∧ w' = w3) ⟨0, rfl, by omega, rfl⟩ ?_ ?_
    · rintro i l w4 hi ⟨s, rfl, hs, rfl⟩ B hB
      rw [s60_p5_Fe]
      unfold s60_p4
      simp only [dlt hi, e_lss, e_ift]
      have hi2 : i < (lms.map Lm.val).length := by rw [hvl]; exact hi
      refine ar.ix hi2 fun b o hb hcc => ?_
      refine hcc.ld0 rfl ?_
      have hp := hl5 lms[i] (List.getElem_mem (by omega))
      rw [List.getElem_map]
      refine (hp.1.kp' k13).ln ?_
      simp only [e_add]
      rw [inc i (by omega)]
      exact hB _ _ ⟨_, rfl, wrap64_b _, rfl⟩
    · rintro l w4 ⟨s, rfl, hs, rfl⟩ B
      rw [s60_p5_Fe]
      unfold s60_p4
      simp only [dnlt, e_lss, e_iff]
      unfold s60_p3
      refine bdq_r (l := [.slice none 0 0]) rfl ?_
      refine nw_r fun w5 r5 hk5 hz5 => ?_
      replace r5 : Row w5 w4.heap.size 169 [.slice none 0 0] := r5
      unfold s60_p2 s60_p2_d
      have kd : Kp Emp w5 (drw w5) := kp_drw
      generalize drw w5 = w6 at kd ⊢
      have h6 : Tx w4 w6 w4.heap.size 0 0 w1.heap.size 141 (imC im.rules im.seq im.now rv (.slice (some ⟨wb, 0, none⟩) im.ls.length im.ls.length)) [] := ⟨⟨none, _, [], kd.row' r5, ⟨rfl, rfl⟩, ⟨Nat.le_refl _, Nat.le_refl _⟩, fun b e => by cases e⟩, Nat.le_refl _, hk5.trans kd, kd.row' (hk5.row' r3), ⟨by decide, by decide⟩, fun x hx => by cases hx⟩
      refine ⟨fun w' => Row w' w1.heap.size 141 (imC im.rules im.seq im.now rv (.slice (some ⟨wb, 0, none⟩) im.ls.length im.ls.length)), h6.kr, ?_⟩
      refine fdp ⟨_, fun w' hJ => ld1_r (v := I im.seq) hJ rfl ⟨rfl, rfl⟩, ?_⟩
      refine fdp ⟨_, fun w' hJ => ld1_r (v := I im.now) hJ rfl ⟨rfl, rfl⟩, ?_⟩
      have e1 : (⟨#[115, 110, 97, 112, 115, 104, 111, 116]⟩ : ByteArray).size = 8 := rfl
      have e2 : (⟨#[115, 101, 113]⟩ : ByteArray).size = 3 := rfl
      have e3 : (⟨#[110, 111, 119]⟩ : ByteArray).size = 3 := rfl
      refine word_ok h6 (by omega) fun w7 h7 => ⟨h7.kr, ?_⟩
      refine field_ok (h7.low (show 1 ≤ _ by omega)) (by omega) (n63w iN.seq) fun w8 h8 => ⟨h8.kr, ?_⟩
      refine field_ok h8 (by omega) (n63w iN.now) fun w9 h9 => ?_
      exact ts_end (h9.mono (by omega)) h (by omega) (s1.kp' k13) (by omega) hs fun w' s hk hs => hK w' s (k3.trans hk) hs
end
end Go.Proofs.Qxb6500896aGreatDoor
