import Derived.Test.Qxb6500896aGreatN12
import Derived.Test.Qxb6500896aGreatK78
namespace Go.Proofs.Qxb6500896aGreat
open Go.Sh Go.RowKit
set_option linter.unusedVariables false
set_option linter.unusedSimpArgs false

/-! ### the same answers to all questions -/
def ansE (σ : Sg) (J : Jr) (q : Rq) : List Int := eR (hndS park (enc q) σ J).2.2
section
variable {σ σ' σ1 : Sg} {J J' J1 : Jr} {q : Rq} {bs : List Int} {now : Int}
theorem QOk.isq (h : QOk q) : isQ q.op = true := by
  obtain ⟨op, id, at', sl, li, rfl, ho, _⟩ := h.ex
  unfold isQ qq
  simp
  omega
theorem QOk.by_ (h : QOk q) : By (enc q) := enc_by (by have := h.rqn.op; exact this)
theorem QOk.hnd (hq : QOk q) (h : RgI park σ J) (hlo : σ.loose = 0) (hs : σ.seq + 1 ≤ 9223372036854775807) : (hndS park (enc q) σ J).2.2 = ansQ park σ q ∧ (hndS park (enc q) σ J).2.1 = J ∧ Core σ (hndS park (enc q) σ J).1 := by
  have hr : dec (enc q) = (q, 0) := hq.rb
  have := hnd_query h hlo hs hq.by_ (by rw [hr]) (by rw [hr]; exact hq.isq)
  rw [hr] at this
  exact this
theorem obs_ok (hn : 0 ≤ now ∧ now ≤ 1000000) : ∀ q ∈ obs now, QOk q := by
  intro q hq
  unfold obs at hq
  rcases List.mem_append.1 hq with hq | hq
  · rcases List.mem_append.1 hq with hq | hq
    · rcases List.mem_cons.1 hq with rfl | hq
      · exact qok_none _ (.inl rfl)
      · rcases List.mem_cons.1 hq with rfl | hq
        · exact qok_none _ (.inr rfl)
        · cases hq
    · obtain ⟨i, hi, hq⟩ := List.mem_flatMap.1 hq
      have hi := List.mem_range.1 hi
      unfold obsI at hq
      rcases List.mem_cons.1 hq with rfl | hq
      · exact qok_id _ (.inl rfl) (n63_n (by omega))
      · rcases List.mem_cons.1 hq with rfl | hq
        · exact qok_id _ (.inr rfl) (n63_n (by omega))
        · rcases List.mem_cons.1 hq with rfl | hq
          · exact qok_list (n63_n (by omega)) (n63_n (by have := Nat.mod_lt i (show 0 < 7 by decide); omega))
          · cases hq
  · obtain ⟨a, ha, hq⟩ := List.mem_flatMap.1 hq
    have ha := List.mem_range.1 ha
    unfold obsA at hq
    rcases List.mem_cons.1 hq with rfl | hq
    · exact qok_line (n63_n (by omega))
    · obtain ⟨k, hk, hq⟩ := List.mem_flatMap.1 hq
      have hk := List.mem_range.1 hk
      unfold obsS at hq
      split at hq
      · rename_i h0
        rcases List.mem_cons.1 hq with rfl | hq
        · exact qok_slot (n63_n (by omega)) ⟨h0, by omega⟩
        · cases hq
      · cases hq
theorem ansE_core (hq : QOk q) (h : RgI park σ J) (hlo : σ.loose = 0) (hs : σ.seq + 1 ≤ 9223372036854775807) (h' : RgI park σ' J') (hlo' : σ'.loose = 0) (hs' : σ'.seq + 1 ≤ 9223372036854775807) (hc : Core σ σ') : ansE σ' J' q = ansE σ J q := by
  unfold ansE
  rw [(hq.hnd h hlo hs).1, (hq.hnd h' hlo' hs').1, ansQ_core hc]
theorem obs_core (hn : 0 ≤ now ∧ now ≤ 1000000) (h : RgI park σ J) (hlo : σ.loose = 0) (hs : σ.seq + 1 ≤ 9223372036854775807) (h' : RgI park σ' J') (hlo' : σ'.loose = 0) (hs' : σ'.seq + 1 ≤ 9223372036854775807) (hc : Core σ σ') :
    (obs now).flatMap (ansE σ' J') = (obs now).flatMap (ansE σ J) := by
  have : ∀ l : List Rq, (∀ q ∈ l, QOk q) → l.flatMap (ansE σ' J') = l.flatMap (ansE σ J) := by
    intro l
    induction l with
    | nil => intro _; rfl
    | cons q l ih =>
      intro hl
      rw [List.flatMap_cons, List.flatMap_cons, ih fun q hq => hl q (List.mem_cons_of_mem _ hq), ansE_core (hl q List.mem_cons_self) h hlo hs h' hlo' hs' hc]
  exact this _ (obs_ok hn)
theorem ansE_clk (h : RgI park σ J) (hlo : σ.loose = 0) (hs : σ.seq + 1 ≤ 9223372036854775807) : ansE σ J (qq 20 0 0 0 0) = 0 :: 20 :: (uI σ.now ++ (uI (σ.now + 7) ++ (uI ((σ.rs.length : Nat) : Int) ++ []))) := by
  unfold ansE
  rw [((qok_none 20 (.inl rfl)).hnd h hlo hs).1]
  exact ans_clk h
theorem hnd_rpn (h : RgI park σ J) : RpN (hndS park bs σ J).2.2 := by
  have hrp := stbS_rpn (J := J) (bs := bs) park_cv (by decide) fun _ => h.g
  unfold hndS
  simp only
  split
  · exact hrp
  · exact RpN.rf ⟨by decide, by decide⟩
/-! ### a refusal changes nothing -/
theorem chg_core (h : RgI park σ J) (hN : XprN q) (hc : (chgS park q σ J).2.2.code ≠ 0) : Core σ (chgS park q σ J).1 := by
  unfold chgS at hc ⊢
  simp only at hc ⊢
  have h1 : RgI park { σ with ent := ent (σ.seq + 1) q } J := h.same ⟨rfl, rfl, rfl, rfl⟩ rfl rfl rfl
  have hsame := roomS_same park { σ with ent := ent (σ.seq + 1) q } J (((ent (σ.seq + 1) q).length : Nat) : Int)
  obtain ⟨h2, hr⟩ := h1.room park_cv park_mb (((ent (σ.seq + 1) q).length : Nat) : Int)
  generalize roomS park { σ with ent := ent (σ.seq + 1) q } J (((ent (σ.seq + 1) q).length : Nat) : Int) = r at hsame h2 hr hc ⊢
  have c0 : Core σ r.1 := ⟨hsame.now, hsame.rs, hsame.ls, hsame.seq⟩
  by_cases c1 : r.2.2 = 0
  · rw [if_pos c1] at hc ⊢
    have hroom : (((ent (σ.seq + 1) q).length : Nat) : Int) ≤ roomR r.2.1 := by
      rcases hr with q | q
      · exact q.2
      · rw [c1] at q; exact absurd q (by decide)
    by_cases c2 : (apS park q r.1).2.code = 0
    · exfalso
      rw [if_pos c2] at hc
      unfold wrtS at hc
      rw [appJ0 h2.off h2.lf hroom (ent_len hN.ll).1, if_pos rfl, if_pos rfl] at hc
      exact hc c2
    · rw [if_neg c2, apS_no c2]
      exact c0.trans (refS_same _ _).core
  · rw [if_neg c1]
    exact c0.trans (refS_same _ _).core
theorem stg_core (h : RgI park σ J) (hR : RqN q) (hx : xpr q = true) (hc : ¬ ((stgS park q σ J).2.2.code = 0 ∧ isC q.op = true)) : Core σ (stgS park q σ J).1 := by
  have hN := xprN hR hx
  by_cases hq : isQ q.op = true
  · exact (stg_query h hx hq).2.2.1
  · have hC : isC q.op = true := by
      have := hN.op
      unfold isQ at hq
      unfold isC
      simp only [Bool.and_eq_true, decide_eq_true_eq] at hq ⊢
      omega
    have h1 : RgI park { σ with sr := w1 σ.sr } J := h.same ⟨rfl, rfl, rfl, rfl⟩ rfl rfl rfl
    have c0 : Core σ { σ with sr := w1 σ.sr } := ⟨rfl, rfl, rfl, rfl⟩
    have hc' : (stgS park q σ J).2.2.code ≠ 0 := fun e => hc ⟨e, hC⟩
    unfold stgS at hc' ⊢
    simp only at hc' ⊢
    rw [if_neg (by rw [h.dn]; decide), if_neg (by rw [hx]; decide)] at hc' ⊢
    by_cases c1 : valid park σ.now q = 0
    · rw [if_pos c1, if_neg hq] at hc' ⊢
      exact c0.trans (chg_core h1 hN hc')
    · rw [if_neg c1]
      exact c0.trans (refS_same _ _).core
theorem hnd_core (h : RgI park σ J) (hs : σ.seq + 1 ≤ 9223372036854775807) (hB : By bs) (hc : ¬ ((hndS park bs σ J).2.2.code = 0 ∧ (dec bs).2 = 0 ∧ isC (dec bs).1.op = true)) : Core σ (hndS park bs σ J).1 := by
  have hi := h.hnd park_cv park_mb hB hs
  rw [hi.2.2] at hc
  have c0 : Core σ { σ with sr := w1 σ.sr } := ⟨rfl, rfl, rfl, rfl⟩
  have key : Core σ (stbS park bs σ J).1 := by
    unfold stbS at hc ⊢
    rw [if_neg (by rw [h.dn]; decide)] at hc ⊢
    by_cases c1 : (dec bs).2 = 0
    · rw [if_pos c1] at hc ⊢
      have hN := dec_x c1
      exact stg_core h hN.rq hN.x fun ⟨a, b⟩ => hc ⟨a, c1, b⟩
    · rw [if_neg c1]
      exact c0.trans (refS_same _ _).core
  unfold hndS
  exact key.trans (setS_same park _ _).core
/-- at the end of the clock no tick -/
theorem tick_end (h : RgI park σ J) (hl : Jlm 48 72 1200 J) (hs : σ.seq + 1 ≤ 9223372036854775807) (hB : By bs) (h0 : (dec bs).2 = 0) (ho : (dec bs).1.op = 9) (hn : σ.now = 36) : (hndS park bs σ J).2.2.code = 11 := by
  have hi := h.hnd park_cv park_mb hB hs
  rw [hi.2.2]
  have hN := dec_x h0
  unfold stbS
  rw [if_neg (by rw [h.dn]; decide), if_pos h0]
  generalize (dec bs).1 = q at hN ho
  have hv : valid park σ.now q = 0 := by
    unfold valid
    rw [if_neg (by omega), if_neg (by omega), if_neg (by omega), if_neg (by omega), if_neg (by omega)]
  have h1 : RgI park { σ with sr := w1 σ.sr, ent := ent (σ.seq + 1) q } J := h.same ⟨rfl, rfl, rfl, rfl⟩ rfl rfl rfl
  unfold stgS
  simp only
  rw [if_neg (by rw [h.dn]; decide), if_neg (by rw [hN.x]; decide), if_pos hv, if_neg (by rw [ho]; decide)]
  unfold chgS
  simp only
  have hlen : (((ent (σ.seq + 1) q).length : Nat) : Int) ≤ 48 := by
    have := uI_len (σ.seq + 1)
    have e : enc q = [9] := by
      unfold enc encB
      rw [if_neg (by omega), if_neg (by omega), if_neg (by omega), if_neg (by rw [ho]; decide), if_neg (by omega), if_neg (by omega), if_neg (by omega), if_neg (by omega), ho]
    unfold ent
    rw [e, List.length_append, List.length_singleton]
    omega
  have r0 := room_0 h1 hl hlen
  have hsame := roomS_same park { σ with sr := w1 σ.sr, ent := ent (σ.seq + 1) q } J (((ent (σ.seq + 1) q).length : Nat) : Int)
  generalize roomS park { σ with sr := w1 σ.sr, ent := ent (σ.seq + 1) q } J (((ent (σ.seq + 1) q).length : Nat) : Int) = r at r0 hsame ⊢
  have en : r.1.now = 36 := by rw [hsame.now]; exact hn
  rw [if_pos r0]
  have ea : (apS park q r.1).2 = rf 11 := by
    unfold apS
    rw [if_neg (by omega), if_neg (by omega), if_neg (by omega), if_neg (by omega), if_neg (by omega), if_neg (by omega), if_neg (by omega), if_neg (by omega), if_pos ho]
    show tkR park q r.1 = _
    unfold tkR
    rw [en, if_pos (by decide)]
  rw [ea, if_neg (show ¬ (rf 11).code = 0 by decide)]
  rfl
end
end Go.Proofs.Qxb6500896aGreat
