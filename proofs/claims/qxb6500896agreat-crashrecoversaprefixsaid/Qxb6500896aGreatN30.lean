import Derived.Test.Qxb6500896aGreatN29
import Derived.Test.Qxb6500896aGreatN22
namespace Go.Proofs.Qxb6500896aGreat
open Go.Sh Go.RowKit
set_option linter.unusedVariables false
set_option linter.unusedSimpArgs false

/-! ### engine and model while failures strike -/
section
variable {Q Q' : Sg → Prop} {σ σ' : Sg} {J J' : Jr} {q : Rq} {bs : List Int} {bss : List (List Int)} {k : Int}
theorem snapJ_c {st : List Int} (ho : J.off = false) (hm : ¬ J.ms < ((st.length : Nat) : Int)) : snapJ J st = ({ dueJ J with has := true, snap := st, log := [], safe := 0 }, 0) ∨ ∃ j, snapJ J st = (j, 19) := by
  unfold snapJ
  rw [if_neg (by rw [ho]; decide), if_neg hm]
  split
  · split
    · exact .inr ⟨_, rfl⟩
    · exact .inr ⟨_, rfl⟩
  · exact .inl rfl
/-- room is there or made, or the engine is down -/
theorem room_f {n : Int} (hC : CoreC Q) (h : RgQ Q σ J) (hl : Jlm 48 72 1200 J) (hn : n ≤ 48) : (roomS park σ J n).2.2 = 0 ∨ (roomS park σ J n).1.down = true := by
  have hr : ∀ J' : Jr, J'.mr = 48 → J'.cp = 72 → J'.log = [] → roomR J' = 48 := fun J' a b c => by
    unfold roomR
    rw [a, b, c]
    rfl
  have hb := encImg_1 h.g
  have hm : ¬ J.ms < (((encImg (img park σ)).length : Nat) : Int) := by rw [hl.ms]; omega
  unfold roomS
  by_cases h1 : n ≤ roomR J
  · rw [if_pos h1]; exact .inl rfl
  · rw [if_neg h1]
    by_cases h2 : σ.tail = 0
    · exfalso
      have := h.tl
      rw [hr J hl.mr hl.cp (List.length_eq_zero_iff.1 (by omega))] at h1
      omega
    · rw [if_neg h2]
      rcases snapJ_c h.off hm with e | ⟨j, e⟩
      · have es : snapS park σ J = ({ σ with tail := 0, loose := 0, ss := w1 σ.ss }, { dueJ J with has := true, snap := encImg (img park σ), log := [], safe := 0 }, 0) := by
          unfold snapS; rw [e, if_pos rfl]
        rw [es, if_pos rfl]
        left
        show (if roomR { dueJ J with has := true, snap := encImg (img park σ), log := [], safe := 0 } < n then (17 : Int) else 0) = 0
        rw [hr { dueJ J with has := true, snap := encImg (img park σ), log := [], safe := 0 } hl.mr hl.cp rfl, if_neg (by omega)]
      · have es : snapS park σ J = ({ σ with down := true }, j, 19) := by
          unfold snapS; rw [e, if_neg (show ¬ (19 : Int) = 0 by decide), if_neg (show ¬ (19 : Int) = 18 by decide)]
        rw [es, if_neg (show ¬ (19 : Int) = 0 by decide)]
        exact .inr rfl
theorem refS_down (c : Int) (s : Sg) : (refS c s).down = s.down := (refS_o c s).1
/-- what is answered while the engine stays up -/
theorem chg_up (hC : CoreC Q) (h : RgQ Q σ J) (hl : Jlm 48 72 1200 J) (hN : XprN q) (h9 : q.op ≤ 9) (hv : valid park σ.now q = 0) (hd : (chgS park q σ J).1.down = false) : eR (chgS park q σ J).2.2 = eR (apS park q σ).2 ∧ (chgS park q σ J).1.ms = (apS park q σ).1.ms := by
  have hn := h.g.now
  have hmc : park.mc = 36 := rfl
  rw [hmc] at hn
  have h48 := ent_48 (σ := σ) hN h9 hn hv
  unfold chgS at hd ⊢
  simp only at hd ⊢
  have hsame := roomS_same park { σ with ent := ent (σ.seq + 1) q } J (((ent (σ.seq + 1) q).length : Nat) : Int)
  have h1 : RgQ Q { σ with ent := ent (σ.seq + 1) q } J := h.same ⟨rfl, rfl, rfl, rfl⟩ rfl rfl rfl
  have hrm := room_f hC h1 hl h48
  generalize roomS park { σ with ent := ent (σ.seq + 1) q } J (((ent (σ.seq + 1) q).length : Nat) : Int) = r at hsame hrm hd ⊢
  have c0 : Core σ r.1 := ⟨hsame.now, hsame.rs, hsame.ls, hsame.seq⟩
  obtain ⟨a1, a2, a3, a4⟩ := apS_core (C := park) (q := q) c0
  by_cases c1 : r.2.2 = 0
  · rw [if_pos c1] at hd ⊢
    by_cases c2 : (apS park q r.1).2.code = 0
    · rw [if_pos c2] at hd ⊢
      unfold wrtS at hd ⊢
      by_cases c3 : (appJ r.2.1 (ent (σ.seq + 1) q)).2 = 0
      · rw [if_pos c3, if_pos rfl]
        exact ⟨by rw [a1], ms_of a2 a3 a4⟩
      · rw [if_neg c3, if_neg (show ¬ (19 : Int) = 0 by decide)] at hd
        replace hd : (refS 19 _).down = false := hd
        rw [refS_down] at hd
        cases hd
    · rw [if_neg c2]
      refine ⟨?_, ?_⟩
      · show eR (rf _) = _
        rw [eR_rf c2, ← a1, eR_n c2]
      · exact ((refS_same _ _).ms).trans (ms_of a2 a3 a4)
  · rw [if_neg c1] at hd
    replace hd : (refS r.2.2 r.1).down = false := hd
    rw [refS_down] at hd
    rcases hrm with q | q
    · exact absurd q c1
    · rw [q] at hd; cases hd
theorem stb_up (hC : CoreC Q) (h : RgQ Q σ J) (hl : Jlm 48 72 1200 J) (hd : (stbS park bs σ J).1.down = false) : eR (stbS park bs σ J).2.2 = (mdS bs σ).2 ∧ (stbS park bs σ J).1.ms = (mdS bs σ).1.ms := by
  unfold stbS at hd ⊢
  unfold mdS
  rw [if_neg (by rw [h.dn]; decide)] at hd ⊢
  cases hm : mRead bs with
  | none =>
    have h1 := mRead_none hm
    rw [if_neg (by rw [h1]; decide), h1]
    exact ⟨rfl, (refS_same _ _).ms⟩
  | some q =>
    have hdq := mRead_some hm
    have h0 : (dec bs).2 = 0 := by rw [hdq]
    have hN := dec_x h0
    have hX : xpr (dec bs).1 = true := hN.x
    rw [hdq] at hN hX hd ⊢
    replace hN : XprN q := hN
    have hop := hN.op
    rw [if_pos rfl] at hd ⊢
    unfold stgS at hd ⊢
    simp only at hd ⊢
    rw [if_neg (by rw [h.dn]; decide), if_neg (by rw [hX]; decide)] at hd ⊢
    have h1 : RgQ Q { σ with sr := w1 σ.sr } J := h.same ⟨rfl, rfl, rfl, rfl⟩ rfl rfl rfl
    by_cases hv : valid park σ.now q = 0
    · rw [if_pos hv] at hd ⊢
      by_cases hq : isQ q.op = true
      · rw [if_pos hq]
        unfold isQ at hq
        simp only [Bool.and_eq_true, decide_eq_true_eq] at hq
        rw [mdO_q (by omega)]
        unfold quM
        rw [if_pos hv]
        have eq : qR park q { σ with sr := w1 σ.sr } = qR park q σ := qR_core (C := park) (σ := σ) (σ' := { σ with sr := w1 σ.sr }) ⟨rfl, rfl, rfl, rfl⟩ q
        unfold ansS
        rw [eq]
        by_cases hc : (qR park q σ).code = 0
        · rw [if_pos hc]; exact ⟨rfl, rfl⟩
        · rw [if_neg hc]
          exact ⟨by show eR (rf _) = _; rw [eR_rf hc, eR_n hc], (refS_same _ _).ms⟩
      · rw [if_neg hq] at hd ⊢
        have h9 : q.op ≤ 9 := by
          unfold isQ at hq
          simp only [Bool.and_eq_true, decide_eq_true_eq] at hq
          omega
        rw [mdO_c h9]
        unfold chM
        rw [if_pos hv]
        obtain ⟨a1, a2, a3, a4⟩ := apS_core (C := park) (q := q) (show Core σ { σ with sr := w1 σ.sr } from ⟨rfl, rfl, rfl, rfl⟩)
        obtain ⟨x1, x2⟩ := chg_up (q := q) hC h1 hl hN h9 hv hd
        exact ⟨by rw [x1, a1], by rw [x2]; exact ms_of a2 a3 a4⟩
    · rw [if_neg hv]
      by_cases h9 : q.op ≤ 9
      · rw [mdO_c h9]
        unfold chM
        rw [if_neg hv]
        exact ⟨rfl, (refS_same _ _).ms⟩
      · rw [mdO_q h9]
        unfold quM
        rw [if_neg hv]
        exact ⟨eR_rf hv, (refS_same _ _).ms⟩
/-- the states of the model after some first part of the requests -/
def Ch : List (List Int) → Sg → Sg → Prop
  | [], c, s => s.ms = c.ms
  | b :: l, c, s => s.ms = c.ms ∨ ∃ c', SGd park c' ∧ c'.ms = (mdS b c).1.ms ∧ Ch l c' s
theorem Ch.core : ∀ {l : List (List Int)} {c : Sg}, CoreC (Ch l c)
  | [], c => fun a b h q => by
    have q : a.ms = c.ms := q
    show b.ms = c.ms
    rw [h.ms]; exact q
  | x :: l, c => fun a b h q => by
    rcases q with q | ⟨c', g, e, q⟩
    · exact .inl (by rw [h.ms]; exact q)
    · exact .inr ⟨c', g, e, Ch.core a b h q⟩
theorem Ch.refl : ∀ {l : List (List Int)} {c s : Sg}, s.ms = c.ms → Ch l c s
  | [], c, s, h => h
  | x :: l, c, s, h => .inl h
end
end Go.Proofs.Qxb6500896aGreat
