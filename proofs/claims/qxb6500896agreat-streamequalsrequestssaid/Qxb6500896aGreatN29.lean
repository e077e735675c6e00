import Derived.Test.Qxb6500896aGreatN28
import Derived.Test.Qxb6500896aGreatM33
namespace Go.Proofs.Qxb6500896aGreat
open Go.Sh Go.RowKit
set_option linter.unusedVariables false
set_option linter.unusedSimpArgs false

section
variable {σ σ' : Sg} {J J' : Jr} {q : Rq} {bs : List Int} {bss : List (List Int)}
theorem stb_md (h : RgI park σ J) (hB : By bs) (hs : σ.seq + 1 ≤ 9223372036854775807) :
    ((stbS park bs σ J).2.2 = rf 17 ∧ ∃ n, n ≤ 48 ∧ (roomS park { σ with sr := w1 σ.sr, ent := ent (σ.seq + 1) (dec bs).1 } J n).2.2 = 17) ∨ (eR (stbS park bs σ J).2.2 = (mdS bs σ).2 ∧ (stbS park bs σ J).1.ms = (mdS bs σ).1.ms) := by
  unfold stbS mdS
  rw [if_neg (by rw [h.dn]; decide)]
  cases hm : mRead bs with
  | none =>
    right
    have h1 := mRead_none hm
    rw [if_neg (by rw [h1]; decide), h1]
    exact ⟨rfl, (refS_same _ _).ms⟩
  | some q =>
    have hd := mRead_some hm
    have h0 : (dec bs).2 = 0 := by rw [hd]
    have hN := dec_x h0
    have hX : xpr (dec bs).1 = true := hN.x
    rw [hd] at hN hX ⊢
    rw [if_pos rfl]
    simp only
    unfold stgS
    simp only
    rw [if_neg (by rw [h.dn]; decide), if_neg (by rw [hX]; decide)]
    replace hN : XprN q := hN
    have hop := hN.op
    have h1 : RgI park { σ with sr := w1 σ.sr } J := h.same ⟨rfl, rfl, rfl, rfl⟩ rfl rfl rfl
    by_cases hv : valid park σ.now q = 0
    · rw [if_pos hv]
      by_cases hq : isQ q.op = true
      · rw [if_pos hq]
        right
        unfold isQ at hq
        simp only [Bool.and_eq_true, decide_eq_true_eq] at hq
        rw [mdO_q (by omega)]
        unfold quM
        rw [if_pos hv]
        have eq : qR park q { σ with sr := w1 σ.sr } = qR park q σ := qR_core (C := park) (σ := σ) (σ' := { σ with sr := w1 σ.sr }) ⟨rfl, rfl, rfl, rfl⟩ q
        unfold ansS
        rw [eq]
        by_cases hc : (qR park q σ).code = 0
        · rw [if_pos hc]; exact ⟨rfl, rfl⟩
        · rw [if_neg hc]
          exact ⟨by show eR (rf _) = _; rw [eR_rf hc, eR_n hc], (refS_same _ _).ms⟩
      · rw [if_neg hq]
        have h9 : q.op ≤ 9 := by
          unfold isQ at hq
          simp only [Bool.and_eq_true, decide_eq_true_eq] at hq
          omega
        rw [mdO_c h9]
        unfold chM
        rw [if_pos hv]
        have hn := h.g.now
        have hmc : park.mc = 36 := rfl
        rw [hmc] at hn
        obtain ⟨a1, a2, a3, a4⟩ := apS_core (C := park) (q := q) (show Core σ { σ with sr := w1 σ.sr } from ⟨rfl, rfl, rfl, rfl⟩)
        rcases chg_md (q := q) h1 hN with ⟨x1, x2⟩ | ⟨x1, x2⟩
        · exact .inl ⟨x1, _, ent_48 hN h9 hn hv, x2⟩
        · refine .inr ⟨by rw [x1, a1], by rw [x2]; exact ms_of a2 a3 a4⟩
    · rw [if_neg hv]
      right
      by_cases h9 : q.op ≤ 9
      · rw [mdO_c h9]
        unfold chM
        rw [if_neg hv]
        exact ⟨rfl, (refS_same _ _).ms⟩
      · rw [mdO_q h9]
        unfold quM
        rw [if_neg hv]
        exact ⟨eR_rf hv, (refS_same _ _).ms⟩
/-- with room enough -/
theorem stb_md0 (h : RgI park σ J) (hl : Jlm 48 72 1200 J) (hB : By bs) (hs : σ.seq + 1 ≤ 9223372036854775807) : eR (stbS park bs σ J).2.2 = (mdS bs σ).2 ∧ (stbS park bs σ J).1.ms = (mdS bs σ).1.ms := by
  rcases stb_md h hB hs with ⟨_, n, hn, q⟩ | q
  · have h2 : RgI park { σ with sr := w1 σ.sr, ent := ent (σ.seq + 1) (dec bs).1 } J := h.same ⟨rfl, rfl, rfl, rfl⟩ rfl rfl rfl
    rw [room_0 h2 hl hn] at q
    exact absurd q (by decide)
  · exact q
/-- a batch, request by request -/
structure BatI (σ : Sg) (J : Jr) (bss : List (List Int)) (k : Nat) : Prop where
  i : RgI park (stbL park (bss.take k) σ J).1 (stbL park (bss.take k) σ J).2.1
  l : Jlm 48 72 1200 (stbL park (bss.take k) σ J).2.1
  s : (stbL park (bss.take k) σ J).1.seq ≤ σ.seq + ((k : Nat) : Int)
theorem batI (h : RgI park σ J) (hl : Jlm 48 72 1200 J) (hB : ∀ bs ∈ bss, By bs) (hs : σ.seq + ((bss.length : Nat) : Int) ≤ 1000000000) : ∀ k, k ≤ bss.length → BatI σ J bss k
  | 0, _ => by
    rw [show (0 : Nat) = 0 from rfl]
    exact ⟨h, hl, by simp [stbL]⟩
  | k + 1, hk => by
    obtain ⟨i, l, s⟩ := batI h hl hB hs k (by omega)
    have hkb : k < bss.length := by omega
    have hby := hB _ (List.getElem_mem hkb)
    refine ⟨?_, ?_, ?_⟩
    all_goals rw [List.take_succ_eq_append_getElem hkb, stbL_app]
    · exact i.stb park_cv park_mb hby (by omega)
    · exact l.stb park_cv park_mb (by decide) i
    · have := stbS_q park bss[k] (stbL park (bss.take k) σ J).1 (stbL park (bss.take k) σ J).2.1
      simp only
      omega
theorem BatI.eb {k : Nat} (h : BatI σ J bss k) (hs : σ.seq + ((k : Nat) : Int) ≤ 1000000000) : EB (stbL park (bss.take k) σ J).1 := by
  have := h.l.tt
  have := len_tot (stbL park (bss.take k) σ J).2.1.log
  have := h.i.tl
  have := h.i.lo
  have := h.i.g.seq
  have := h.i.g.now
  have := h.s
  exact ⟨by omega, by omega, by omega, by omega, by omega, by omega⟩
/-- what a batch leaves and answers -/
theorem bat_set (h : RgI park σ J) (hl : Jlm 48 72 1200 J) (hB : ∀ bs ∈ bss, By bs) (hs : σ.seq + ((bss.length : Nat) : Int) ≤ 1000000000) :
    RgI park (batS park bss σ J).1 (batS park bss σ J).2.1 ∧ (batS park bss σ J).1.loose = 0 ∧ Jlm 48 72 1200 (batS park bss σ J).2.1 ∧ (batS park bss σ J).1.ms = (stbL park bss σ J).1.ms ∧ (batS park bss σ J).1.seq ≤ σ.seq + ((bss.length : Nat) : Int) ∧ (batS park bss σ J).2.2 = (stbL park bss σ J).2.2.map eR := by
  obtain ⟨i, l, s⟩ := batI h hl hB hs bss.length (Nat.le_refl _)
  rw [List.take_length] at i l s
  have h1 := i.set park_cv park_mb
  have h2 := setS_same park (stbL park bss σ J).1 (stbL park bss σ J).2.1
  refine ⟨h1.1, h1.2.1, l.set park_cv park_mb (by decide) i, h2.ms, ?_, ?_⟩
  · show (setS park (stbL park bss σ J).1 (stbL park bss σ J).2.1).1.seq ≤ _
    rw [h2.seq]; exact s
  · unfold batS
    simp only
    rw [if_pos h1.2.2]
end
end Go.Proofs.Qxb6500896aGreat
