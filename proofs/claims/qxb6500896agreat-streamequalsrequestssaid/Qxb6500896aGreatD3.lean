import Derived.Test.Qxb6500896aGreatD2
import Derived.Test.Qxb6500896aGreatC9
namespace Go.Proofs.Qxb6500896aGreat
open Go.Sh Go.RowKit
set_option linter.unusedVariables false
set_option linter.unusedSimpArgs false

/-- a part of a slice, as an equation -/
theorem ar_subE {α : Type} {f : α → List Value} {k : Nat} {F : Nat → Prop} {w : World} {v : Value} {xs : List α} (h : Ar f k F w v xs) {lo hi : Nat} (h1 : lo ≤ hi) (h2 : hi ≤ xs.length) {lov hiv : Option Value} (hlo : bv lov 0 = some (lo : Int)) (hhi : bv hiv xs.length = some (hi : Int)) :
    ∃ v', Ar f k F w v' ((xs.drop lo).take (hi - lo)) ∧ ∀ (K : Value → World → Prop) w', sls k v lov hiv K w' = K v' w' := by
  have := h.sub (K := fun u _ => Ar f k F w u ((xs.drop lo).take (hi - lo))) (w' := w) h1 h2 hlo (fun a c e => hhi) (fun v' h => h)
  obtain ⟨a, cap, rfl⟩ := h.form
  unfold sls at this
  simp only [hlo, hhi] at this
  obtain ⟨c, hA⟩ := this
  refine ⟨_, hA, fun K w' => ?_⟩
  unfold sls
  simp only [hlo, hhi]
  exact propext ⟨fun q => q.2, fun q => ⟨c, q⟩⟩
/-- blocks of the law that are neither the records' nor the issues' -/
abbrev Fz (V : Nat → Prop) (rob iob : Option Nat) : Nat → Prop := fun b => V b ∧ rob ≠ some b ∧ iob ≠ some b
/-- the law's own serving -/
structure Sb (Z : (Nat → Prop) → World → Prop) (X : List (Nat × TypeId × List Value)) (rv : Value) (rob : Option Nat) (V : Nat → Prop) (w : World) (iv : Value) (iob : Option Nat) (s : SrvS) : Prop where
  z : Z V w
  x : ∀ p ∈ X, Fz V rob iob p.1 ∧ Row w p.1 p.2.1 p.2.2
  recs : ∃ its : List (Rec × Value), its.map (·.1) = s.rs ∧ Sl rC 7 w 85 rob rv its ∧ ∀ p ∈ its, Ar lC 2 (Fz V rob iob) w p.2 p.1.legs
  rV : ∀ b, rob = some b → V b
  iss : Sl isC2 2 w 90 iob iv s.iss
  iV : ∀ b, iob = some b → V b
section
variable {V V' V1 S F : Nat → Prop} {W w w' w1 w2 : World} {fv v rv iv lv : Value} {ans : Rq → List Int} {Z : (Nat → Prop) → World → Prop} {X : List (Nat × TypeId × List Value)} {K : Value → World → Prop} {c : Nat} {rob iob : Option Nat} {s : SrvS} {line : List Int}
theorem Sb.ky (h : Sb Z X rv rob V w iv iob s) (z' : Z V' w') (hV : ∀ b, V b → V' b) (ky : Ky V w w') : Sb Z X rv rob V' w' iv iob s := by
  obtain ⟨its, e1, e2, e3⟩ := h.recs
  obtain ⟨S, k, q⟩ := ky
  exact ⟨z', fun p hp => ⟨⟨hV _ (h.x p hp).1.1, (h.x p hp).1.2⟩, k.row (h.x p hp).2 (q _ (h.x p hp).1.1)⟩, ⟨its, e1, e2.kp k fun b e => q b (h.rV b e), fun p hp => ((e3 p hp).kp k fun b hb => q b hb.1).mono fun b hb => ⟨hV b hb.1, hb.2⟩⟩, fun b e => hV b (h.rV b e), h.iss.kp k fun b e => q b (h.iV b e), fun b e => hV b (h.iV b e)⟩
theorem Sb.emp (srv : Srv W fv ans Z) (h : Sb Z X rv rob V w iv iob s) (k : Kp Emp w w') : Sb Z X rv rob (fun b => V b ∨ Nb w w' b) w' iv iob s :=
  h.ky (srv.gro (S := Emp) h.z k fun b q => q.elim) (fun b q => .inl q) (Ky.of k fun _ _ q => q)
theorem Sb.ro (h : Sb Z X rv rob V w iv iob s) (hl : s.rs.length ≤ 1000000) : Ro V w rv s.rs := by
  obtain ⟨its, e1, e2, e3⟩ := h.recs
  have : its.length = s.rs.length := by rw [← e1, List.length_map]
  exact ⟨its, e1, e2.ar rC_len (by omega) h.rV, fun p hp => (e3 p hp).mono fun b hb => hb.1⟩
theorem Sb.ne (h : Sb Z X rv rob V w iv iob s) {b : Nat} (hr : rob = some b) : iob ≠ some b := fun e => by
  obtain ⟨its, _, e2, _⟩ := h.recs
  obtain ⟨l1, r1⟩ := e2.row hr
  obtain ⟨l2, r2⟩ := h.iss.row e
  exact row_ne r1 r2 (by decide) rfl
/-- the record's place -/
theorem Sb.at_ {j : Nat} (h : Sb Z X rv rob V w iv iob s) (hj : j < s.rs.length) {q : IntKind} (hK : ∀ b, rob = some b → K (P b (j * 7)) w') : ixs 7 rv (.int q (j : Nat)) K w' := by
  obtain ⟨its, e1, e2, e3⟩ := h.recs
  have hil : its.length = s.rs.length := by rw [← e1, List.length_map]
  cases rob with
  | none => obtain ⟨_, rfl⟩ := e2; simp at hil; omega
  | some b => exact sl_ixp e2 (by omega) (hK b rfl)
theorem Sb.row {j b : Nat} (h : Sb Z X rv rob V w iv iob s) (hb : rob = some b) (hj : j < s.rs.length) : ∃ l lv, Row w b 85 l ∧ (∀ m, m < 7 → l[j * 7 + m]? = (rC (s.rs[j], lv))[m]?) ∧ Ar lC 2 (Fz V rob iob) w lv s.rs[j].legs := by
  obtain ⟨its, e1, e2, e3⟩ := h.recs
  have hil : its.length = s.rs.length := by rw [← e1, List.length_map]
  have hj2 : j < its.length := by omega
  have ei : its[j].1 = s.rs[j] := by
    have : (its.map (·.1))[j]? = s.rs[j]? := by rw [e1]
    rw [List.getElem?_map, List.getElem?_eq_getElem hj2, List.getElem?_eq_getElem hj] at this
    exact Option.some.inj this
  have hl3 := e3 _ (List.getElem_mem hj2)
  subst hb
  obtain ⟨cap, junk, h1, h2, h3, h4⟩ := e2
  have hrl := rows_length rC_len its
  refine ⟨_, its[j].2, h4, fun m hm => ?_, by rw [← ei]; exact hl3⟩
  rw [List.getElem?_append_left (by rw [hrl]; omega), ← ei]
  exact rows_get rC_len its j hj2 m hm
/-- a field of a record -/
theorem Sb.ld {j m b : Nat} {x : Value} (h : Sb Z X rv rob V w iv iob s) (hb : rob = some b) (hj : j < s.rs.length) (hm : m < 6) (hx : ∀ lv, (rC (s.rs[j], lv))[m]? = some x) (hK : K x w) : ld1 (P b (j * 7 + m)) K w := by
  obtain ⟨l, lv, r, h1, _⟩ := h.row hb hj
  exact ld1_r r (by rw [h1 m (by omega), hx]) hK
end
theorem nk1 {K : Value → World → Prop} {w : World} {n o : Nat} (h : K (P n o) w) : nck (P n o) K w := h
theorem fdo {K : Value → World → Prop} {w : World} {n o m : Nat} (h : K (P n (o + m)) w) : fd m (P n o) K w := by
  simp only [e_fd]; exact h
/-! ### the slots are tried -/
theorem offF_step {C : Cfg} {rs : List Rec} {r : Rec} {n : Nat} {s : Int} (h : ¬ fits C rs r.cl r.sz [⟨r.ln - 1, s⟩] 0 = 0) : offF C rs r (n + 1) s = offF C rs r n (s + 1) := by
  rw [offF, if_neg h]
theorem offF_hit {C : Cfg} {rs : List Rec} {r : Rec} {n : Nat} {s : Int} (h : fits C rs r.cl r.sz [⟨r.ln - 1, s⟩] 0 = 0) : offF C rs r (n + 1) s = some s := by
  rw [offF, if_pos h]
section
variable {V V' V1 S F : Nat → Prop} {W w w' w1 w2 : World} {fv v rv iv lv : Value} {ans : Rq → List Int} {Z : (Nat → Prop) → World → Prop} {X : List (Nat × TypeId × List Value)} {K : Value → World → Prop} {c : Nat} {rob iob : Option Nat} {s : SrvS} {line : List Int} {B1 B2 B3 B4 : List Value → World → Prop} {t4 t5 t7 t18 t20 t21 t22 t40 t41 t42 t80 t81 t91 t92 t93 : Value} {seq now : Int} {cf a j b : Nat} {cc : List Value}
set_option maxHeartbeats 2000000 in
theorem scan_ok (srv : Srv W fv ans Z) (h : Sb Z X rv rob V w iv iob s) (g : Gd park seq now s.rs s.ls) (hX : Row W cf 34 cc) (hcc : cc[9]? = some (I 4)) (ha : a < 3) (hb : rob = some b) (hj : j < s.rs.length) (h7 : s.rs[j].st = 7) (hln : s.rs[j].ln = ((a : Nat) : Int) + 1)
    (hY : ∀ w' x, offF park s.rs s.rs[j] 4 (now + 1) = some x → Kp Emp w w' → s8_p14 K B1 B2 B3 B4 (P cf 0) t4 t5 t7 rv (I now) iv (I (a : Nat)) t18 t21 t22 (P b (j * 7)) (I x) t40 t41 t42 t80 t81 w')
    (hN : ∀ w', offF park s.rs s.rs[j] 4 (now + 1) = none → Kp Emp w w' → s8_p11 K B1 B2 B3 B4 (P cf 0) t4 t5 t7 rv (I now) iv (I (a : Nat)) t18 t20 t40 t41 t42 t80 t81 t91 t92 t93 w') :
    s8_p19 K B1 B2 B3 B4 (P cf 0) t4 t5 t7 rv (I now) iv (I (a : Nat)) t18 t20 t21 t22 (P b (j * 7)) (I (now + 1)) t40 t41 t42 t80 t81 t91 t92 t93 w := by
  have hn := g.now
  have hmc : park.mc = 36 := rfl
  rw [hmc] at hn
  have hlen := g.len
  have hmb : park.mb = 26 := rfl
  rw [hmb] at hlen
  have rl := g.rl park_cv
  have rc := g.rc _ (List.getElem_mem hj)
  have hcl := rc.cl
  have hcl0 : 0 ≤ s.rs[j].cl := (g.rn _ (List.getElem_mem hj)).cl.1
  have hsz := rc.s0
  have hsz1 := rc.s1
  have hmp : park.mp = 5 := rfl
  unfold s8_p19
  refine loop_m 4 (fun n l w' => ∃ i : Nat, n + i = 4 ∧ l = [P cf 0, t4, t5, t7, rv, I now, iv, I (a : Nat), t18, t20, t21, t22, P b (j * 7), I (now + 1 + ((i : Nat) : Int)), t40, t41, t42, t80, t81, t91, t92, t93] ∧ Kp Emp w w' ∧ offF park s.rs s.rs[j] 4 (now + 1) = offF park s.rs s.rs[j] n (now + 1 + ((i : Nat) : Int))) ⟨0, rfl, by simp, Kp.refl _ _, by simp⟩ ?_
  rintro n l w1 ⟨i, hni, rfl, k1, he⟩ B hB
  rw [s8_p19_Fe]
  unfold s8_p18 s8_p18_d
  have kd : Kp Emp w1 (drw w1) := kp_drw
  generalize drw w1 = w2 at kd ⊢
  have k2 := k1.trans kd
  have h2 := h.emp srv k2
  have rcf := (srv.k h2.z).row' hX
  refine fdp (ld1_r (v := I 4) rcf hcc ?_)
  simp only [e_add]
  rw [wrap64_id (by omega) (by omega)]
  simp only [e_leq]
  -- what follows the loop
  have fin16 : ∀ w3, Kp Emp w w3 → (∀ x, offF park s.rs s.rs[j] 4 (now + 1) = some x → x = now + 1 + ((i : Nat) : Int) ∧ x ≤ now + 4) → (offF park s.rs s.rs[j] 4 (now + 1) = none → ¬ now + 1 + ((i : Nat) : Int) ≤ now + 4) → s8_p16 K B1 B2 B3 B4 (P cf 0) t4 t5 t7 rv (I now) iv (I (a : Nat)) t18 t20 t21 t22 (P b (j * 7)) (I (now + 1 + ((i : Nat) : Int))) t40 t41 t42 t80 t81 t91 t92 t93 w3 := by
    intro w3 k3 h1 h0
    unfold s8_p16
    have h3 := h.emp srv k3
    refine fdp (ld1_r (v := I 4) ((srv.k h3.z).row' hX) hcc ?_)
    simp only [e_add]
    rw [wrap64_id (by omega) (by omega)]
    simp only [e_leq]
    unfold s8_p15
    cases ho : offF park s.rs s.rs[j] 4 (now + 1) with
    | none =>
      rw [decide_eq_false (h0 ho)]
      exact sw_f (hN w3 ho k3)
    | some x =>
      obtain ⟨e, hle⟩ := h1 x ho
      rw [decide_eq_true (by omega)]
      refine sw_t ?_
      rw [← e]
      exact hY w3 x ho k3
  cases n with
  | zero =>
    have : offF park s.rs s.rs[j] 4 (now + 1) = none := by rw [he, offF]
    rw [decide_eq_false (show ¬ now + 1 + ((i : Nat) : Int) ≤ now + 4 by omega)]
    refine g_f0 (g_f0 (g_f0 (g_f0 (g_f0 (g_f0 (g_f0 (g_f0 (g_f0 (g_f0 (g_f0 (g_f0 (g_f0 ?_))))))))))))
    refine p_kf ?_
    unfold s8_p17
    refine sw_f ?_
    exact fin16 w2 k2 (fun x hx => by rw [this] at hx; cases hx) fun _ => by omega
  | succ n =>
    rw [decide_eq_true (show now + 1 + ((i : Nat) : Int) ≤ now + 4 by omega)]
    simp only [e_gdtt]
    refine nk1 (fdo ?_)
    refine h2.ld hb hj (by decide) (m := 2) (x := I s.rs[j].cl) (fun _ => rfl) ?_
    refine nk1 (fdo ?_)
    refine h2.ld hb hj (by decide) (m := 3) (x := I s.rs[j].sz) (fun _ => rfl) ?_
    have hlen' : s.rs.length ≤ 1000000 := by omega
    refine takes_ok ha ⟨by omega, by omega⟩ (by omega) ⟨by omega, by omega⟩ (h2.ro hlen') (by omega) (fun r hr => (rl r hr).rb) (fun r hr => by have := g.pos r hr; omega) fun w3 k3 => ?_
    have k3' := k2.trans k3
    have eln : s.rs[j].ln - 1 = ((a : Nat) : Int) := by omega
    by_cases hf : fits park s.rs s.rs[j].cl s.rs[j].sz [⟨((a : Nat) : Int), now + 1 + ((i : Nat) : Int)⟩] 0 = 0
    · rw [decide_eq_true hf]
      simp only [e_not, Bool.not_true, e_pkt]
      unfold s8_p17
      refine sw_f ?_
      have : offF park s.rs s.rs[j] 4 (now + 1) = some (now + 1 + ((i : Nat) : Int)) := by rw [he, offF_hit (by rw [eln]; exact hf)]
      exact fin16 w3 k3' (fun x hx => by rw [this] at hx; cases hx; exact ⟨rfl, by omega⟩) fun hx => by rw [this] at hx; cases hx
    · rw [decide_eq_false hf]
      simp only [e_not, Bool.not_false, e_pkt]
      unfold s8_p17
      refine sw_t ?_
      simp only [e_add]
      rw [wrap64_id (by omega) (by omega)]
      refine hB n _ _ (by omega) ⟨i + 1, by omega, by rw [show now + 1 + ((i : Nat) : Int) + 1 = now + 1 + ((i + 1 : Nat) : Int) by omega], k3', ?_⟩
      rw [he, offF_step (by rw [eln]; exact hf), show now + 1 + ((i : Nat) : Int) + 1 = now + 1 + ((i + 1 : Nat) : Int) by omega]
end
end Go.Proofs.Qxb6500896aGreat
