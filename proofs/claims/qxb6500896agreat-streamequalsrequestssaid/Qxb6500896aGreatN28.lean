import Derived.Test.Qxb6500896aGreatM28
import Derived.Test.Qxb6500896aGreatN20
import Derived.Test.Qxb6500896aGreatN10
namespace Go.Proofs.Qxb6500896aGreat
open Go.Sh Go.RowKit
set_option linter.unusedVariables false
set_option linter.unusedSimpArgs false

/-! ### the engine answers as the model -/
theorem Core.ms {a b : Sg} (h : Core a b) : b.ms = a.ms := by unfold Sg.ms; rw [h.now, h.rs, h.ls]
theorem Same.ms {a b : Sg} (h : Same a b) : b.ms = a.ms := by unfold Sg.ms; rw [h.now, h.rs, h.ls]
theorem eR_n {p : Rp} (h : p.code ≠ 0) : eR p = [p.code] := by unfold eR; rw [if_neg h]
section
variable {σ σ' : Sg} {J : Jr} {q : Rq} {bs : List Int}
theorem ms_of {a b : Sg} (h1 : a.now = b.now) (h2 : a.rs = b.rs) (h3 : a.ls = b.ls) : a.ms = b.ms := by unfold Sg.ms; rw [h1, h2, h3]
/-- an entry of a change is short -/
theorem ent_48 (hN : XprN q) (hC : q.op ≤ 9) (hn : 0 ≤ σ.now ∧ σ.now ≤ 36) (hv : valid park σ.now q = 0) : (((ent (σ.seq + 1) q).length : Nat) : Int) ≤ 48 := by
  have hs := uI_len (σ.seq + 1)
  have hi := uI_len q.id
  have e4 : park.mp = 5 := rfl
  have e5 : park.hz = 8 := rfl
  have e6 : ((park.ats.length : Nat) : Int) = 3 := rfl
  have lg : LO2 park σ.now q.legs → (encLegs q.legs).length ≤ 17 := fun lo => encLegs_1 hN.ll fun l hl => by
    have a1 := lo.lv l hl
    rw [e5, e6] at a1
    exact ⟨⟨a1.1.1, by omega⟩, by omega, by omega⟩
  unfold ent enc encB
  by_cases c1 : q.op = 1 ∨ q.op = 22
  · obtain ⟨⟨cl, sz⟩, lo⟩ := valid_hold hv c1
    rw [e4] at sz
    have := lg lo
    rw [if_pos c1]
    simp only [List.length_append, List.length_cons]
    rw [uI_1 (x := q.cl) ⟨by omega, by omega⟩, uI_1 (x := q.sz) ⟨by omega, by omega⟩]
    omega
  rw [if_neg c1]
  by_cases c5 : q.op = 5
  · have := lg (valid_rebook hv c5)
    rw [if_pos c5]
    simp only [List.length_append, List.length_cons]
    omega
  rw [if_neg c5]
  by_cases c6 : q.op = 6
  · rw [if_pos c6]
    have h1 := uI_len q.at'
    have h2 := uI_len q.cl
    have h3 := uI_len q.sz
    simp only [List.length_append, List.length_cons]
    omega
  rw [if_neg c6]
  split
  · simp only [List.length_append, List.length_cons]; omega
  rw [if_neg (by omega), if_neg (by omega), if_neg (by omega), if_neg (by omega)]
  simp only [List.length_append, List.length_cons, List.length_nil]
  omega
/-- a change: no room, or as it is carried out -/
theorem chg_md (h : RgI park σ J) (hN : XprN q) : ((chgS park q σ J).2.2 = rf 17 ∧ (roomS park { σ with ent := ent (σ.seq + 1) q } J (((ent (σ.seq + 1) q).length : Nat) : Int)).2.2 = 17) ∨ (eR (chgS park q σ J).2.2 = eR (apS park q σ).2 ∧ (chgS park q σ J).1.ms = (apS park q σ).1.ms) := by
  unfold chgS
  simp only
  have hsame := roomS_same park { σ with ent := ent (σ.seq + 1) q } J (((ent (σ.seq + 1) q).length : Nat) : Int)
  have h1 : RgI park { σ with ent := ent (σ.seq + 1) q } J := h.same ⟨rfl, rfl, rfl, rfl⟩ rfl rfl rfl
  obtain ⟨h2, hc⟩ := h1.room park_cv park_mb (((ent (σ.seq + 1) q).length : Nat) : Int)
  generalize roomS park { σ with ent := ent (σ.seq + 1) q } J (((ent (σ.seq + 1) q).length : Nat) : Int) = r at hsame h2 hc ⊢
  have c0 : Core σ r.1 := ⟨hsame.now, hsame.rs, hsame.ls, hsame.seq⟩
  rcases hc with ⟨c1, hroom⟩ | c1
  · right
    rw [if_pos c1]
    obtain ⟨a1, a2, a3, a4⟩ := apS_core (C := park) (q := q) c0
    by_cases c2 : (apS park q r.1).2.code = 0
    · rw [if_pos c2]
      unfold wrtS
      rw [appJ0 h2.off h2.lf hroom (ent_len hN.ll).1, if_pos rfl, if_pos rfl]
      exact ⟨by rw [a1], ms_of a2 a3 a4⟩
    · rw [if_neg c2]
      refine ⟨?_, ?_⟩
      · show eR (rf _) = _
        rw [eR_rf c2, ← a1, eR_n c2]
      · exact ((refS_same _ _).ms).trans (ms_of a2 a3 a4)
  · left
    rw [if_neg (by rw [c1]; decide), c1]
    exact ⟨rfl, rfl⟩
theorem hnd_md (h : RgI park σ J) (hB : By bs) (hs : σ.seq + 1 ≤ 9223372036854775807) :
    ((hndS park bs σ J).2.2 = rf 17 ∧ ∃ n, n ≤ 48 ∧ (roomS park { σ with sr := w1 σ.sr, ent := ent (σ.seq + 1) (dec bs).1 } J n).2.2 = 17) ∨ (eR (hndS park bs σ J).2.2 = (mdS bs σ).2 ∧ (hndS park bs σ J).1.ms = (mdS bs σ).1.ms) := by
  obtain ⟨_, _, e3⟩ := h.hnd park_cv park_mb hB hs
  have em : (hndS park bs σ J).1.ms = (stbS park bs σ J).1.ms := (setS_same park (stbS park bs σ J).1 (stbS park bs σ J).2.1).ms
  rw [e3, em]
  clear e3 em
  unfold stbS mdS
  rw [if_neg (by rw [h.dn]; decide)]
  cases hm : mRead bs with
  | none =>
    right
    have h1 := mRead_none hm
    rw [if_neg (by rw [h1]; decide), h1]
    exact ⟨rfl, (refS_same _ _).ms⟩
  | some q =>
    have hd := mRead_some hm
    have h0 : (dec bs).2 = 0 := by rw [hd]
    have hN := dec_x h0
    have hX : xpr (dec bs).1 = true := hN.x
    rw [hd] at hN hX ⊢
    rw [if_pos rfl]
    simp only
    unfold stgS
    simp only
    rw [if_neg (by rw [h.dn]; decide), if_neg (by rw [hX]; decide)]
    replace hN : XprN q := hN
    have hop := hN.op
    have h1 : RgI park { σ with sr := w1 σ.sr } J := h.same ⟨rfl, rfl, rfl, rfl⟩ rfl rfl rfl
    by_cases hv : valid park σ.now q = 0
    · rw [if_pos hv]
      by_cases hq : isQ q.op = true
      · rw [if_pos hq]
        right
        unfold isQ at hq
        simp only [Bool.and_eq_true, decide_eq_true_eq] at hq
        rw [mdO_q (by omega)]
        unfold quM
        rw [if_pos hv]
        have eq : qR park q { σ with sr := w1 σ.sr } = qR park q σ := qR_core (C := park) (σ := σ) (σ' := { σ with sr := w1 σ.sr }) ⟨rfl, rfl, rfl, rfl⟩ q
        unfold ansS
        rw [eq]
        by_cases hc : (qR park q σ).code = 0
        · rw [if_pos hc]; exact ⟨rfl, rfl⟩
        · rw [if_neg hc]
          exact ⟨by show eR (rf _) = _; rw [eR_rf hc, eR_n hc], (refS_same _ _).ms⟩
      · rw [if_neg hq]
        have h9 : q.op ≤ 9 := by
          unfold isQ at hq
          simp only [Bool.and_eq_true, decide_eq_true_eq] at hq
          omega
        rw [mdO_c h9]
        unfold chM
        rw [if_pos hv]
        have hn := h.g.now
        have hmc : park.mc = 36 := rfl
        rw [hmc] at hn
        obtain ⟨a1, a2, a3, a4⟩ := apS_core (C := park) (q := q) (show Core σ { σ with sr := w1 σ.sr } from ⟨rfl, rfl, rfl, rfl⟩)
        rcases chg_md (q := q) h1 hN with ⟨x1, x2⟩ | ⟨x1, x2⟩
        · exact .inl ⟨x1, _, ent_48 hN h9 hn hv, x2⟩
        · refine .inr ⟨by rw [x1, a1], by rw [x2]; exact ms_of a2 a3 a4⟩
    · rw [if_neg hv]
      right
      by_cases h9 : q.op ≤ 9
      · rw [mdO_c h9]
        unfold chM
        rw [if_neg hv]
        exact ⟨rfl, (refS_same _ _).ms⟩
      · rw [mdO_q h9]
        unfold quM
        rw [if_neg hv]
        exact ⟨eR_rf hv, (refS_same _ _).ms⟩
/-- with room enough -/
theorem hnd_md0 (h : RgI park σ J) (hl : Jlm 48 72 1200 J) (hB : By bs) (hs : σ.seq + 1 ≤ 9223372036854775807) : eR (hndS park bs σ J).2.2 = (mdS bs σ).2 ∧ (hndS park bs σ J).1.ms = (mdS bs σ).1.ms := by
  rcases hnd_md h hB hs with ⟨_, n, hn, q⟩ | q
  · have h2 : RgI park { σ with sr := w1 σ.sr, ent := ent (σ.seq + 1) (dec bs).1 } J := h.same ⟨rfl, rfl, rfl, rfl⟩ rfl rfl rfl
    rw [room_0 h2 hl hn] at q
    exact absurd q (by decide)
  · exact q
theorem eR_ansQ : eR (ansQ park σ q) = quM q σ := by
  unfold ansQ quM
  by_cases hv : valid park σ.now q = 0
  · rw [if_pos hv, if_pos hv]
    by_cases hc : (qR park q σ).code = 0
    · rw [if_pos hc]
    · rw [if_neg hc, eR_rf hc, eR_n hc]
  · rw [if_neg hv, if_neg hv, eR_rf hv]
end
end Go.Proofs.Qxb6500896aGreat
