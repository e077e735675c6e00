import Derived.Test.Qxb6500896aGreatK73
import Derived.Test.Qxb6500896aGreatGl
namespace Go.Proofs.Qxb6500896aGreat
open Go.Sh Go.RowKit
set_option linter.unusedVariables false
set_option linter.unusedSimpArgs false

/-! ### a journal with a gap, or an entry twice -/
section
variable {C : Cfg}
theorem rplL_app (C : Cfg) : ∀ (a b : List (List Int)) (σ : Sg), rplL C (a ++ b) σ = match rplL C a σ with
    | none => none
    | some σ' => rplL C b σ'
  | [], b, σ => rfl
  | x :: a, b, σ => by
    rw [List.cons_append, rplL, rplL]
    cases rplS C x σ with
    | none => rfl
    | some σ' => exact rplL_app C a b σ'
/-- an entry out of turn is refused -/
theorem rplS_gap {x y : List Int} {σ σ' σ'' : Sg} (h1 : rplS C x σ = some σ') (h2 : rplS C y σ' = some σ'') : rplS C y σ = none := by
  have a := rplS_seq h1
  have b := rplS_seq h2
  unfold rplS
  rw [if_neg]
  rintro ⟨_, q, _⟩
  omega
theorem rplS_twice {x : List Int} {σ σ' : Sg} (h1 : rplS C x σ = some σ') : rplS C x σ' = none := by
  have a := rplS_seq h1
  unfold rplS
  rw [if_neg]
  rintro ⟨_, q, _⟩
  omega
theorem rpl_gap {log : List (List Int)} {σ0 σ1 : Sg} {i : Nat} (h : rplL C log σ0 = some σ1) (hi : i + 1 < log.length) : rplL C (log.take i ++ log.drop (i + 1)) σ0 = none := by
  have e : log = log.take i ++ (log[i] :: log[i + 1] :: log.drop (i + 2)) := by
    conv => lhs; rw [← List.take_append_drop i log]
    rw [List.drop_eq_getElem_cons (by omega), List.drop_eq_getElem_cons (by omega)]
  rw [e, rplL_app] at h
  rw [rplL_app]
  cases ht : rplL C (log.take i) σ0 with
  | none => rfl
  | some σa =>
    rw [ht] at h
    have h' : rplL C (log[i] :: log[i + 1] :: log.drop (i + 2)) σa = some σ1 := h
    rw [rplL] at h'
    cases hb : rplS C log[i] σa with
    | none => rw [hb] at h'; cases h'
    | some σb =>
      rw [hb] at h'
      have h'' : rplL C (log[i + 1] :: log.drop (i + 2)) σb = some σ1 := h'
      rw [rplL] at h''
      cases hc : rplS C log[i + 1] σb with
      | none => rw [hc] at h''; cases h''
      | some σc =>
        show rplL C (log.drop (i + 1)) σa = none
        rw [List.drop_eq_getElem_cons (by omega), rplL, rplS_gap hb hc]
theorem rpl_twice {log : List (List Int)} {σ0 σ1 : Sg} {i : Nat} (h : rplL C log σ0 = some σ1) (hi : i < log.length) : rplL C (log.take (i + 1) ++ log.drop i) σ0 = none := by
  have e : log = log.take i ++ (log[i] :: log.drop (i + 1)) := by
    conv => lhs; rw [← List.take_append_drop i log]
    rw [List.drop_eq_getElem_cons (by omega)]
  rw [e, rplL_app] at h
  rw [List.take_succ_eq_append_getElem hi, List.append_assoc, rplL_app]
  cases ht : rplL C (log.take i) σ0 with
  | none => rfl
  | some σa =>
    rw [ht] at h
    have h' : rplL C (log[i] :: log.drop (i + 1)) σa = some σ1 := h
    rw [rplL] at h'
    cases hb : rplS C log[i] σa with
    | none => rw [hb] at h'; cases h'
    | some σb =>
      show rplL C ([log[i]] ++ log.drop i) σa = none
      rw [List.singleton_append, rplL, hb]
      show rplL C (log.drop i) σb = none
      rw [List.drop_eq_getElem_cons (by omega), rplL, rplS_twice hb]
theorem opn1_none {J : Jr} {log : List (List Int)} {s : Nat} (h : ∀ σ0, rplL C J.log σ0 ≠ none → rplL C log σ0 = none) (hs : ∃ σ1, opn1 C J = some σ1) : opn1 C { J with log := log, safe := s } = none := by
  obtain ⟨σ1, h1⟩ := hs
  unfold opn1 at h1 ⊢
  have e0 : opn0 C { J with log := log, safe := s } = opn0 C J := rfl
  rw [e0]
  cases h0 : opn0 C J with
  | none => rfl
  | some σ0 =>
    rw [h0] at h1
    have h1' : rplL C J.log σ0 = some σ1 := h1
    exact h σ0 (by rw [h1']; simp)
end
section
variable {M M' : Nat → Prop} {w w' w1 : World} {j : Nat} {lob : Option Nat} {J : Jr} {K : Value → World → Prop}
/-- pairs of an entry and its text -/
def Zp (M : Nat → Prop) (w : World) (evs : List Value) (log : List (List Int)) : Prop := evs.length = log.length ∧ ∀ i (h1 : i < evs.length) (h2 : i < log.length), Ai bC 1 M w evs[i] log[i]
theorem Zp.take {evs : List Value} {log : List (List Int)} (h : Zp M w evs log) (n : Nat) : Zp M w (evs.take n) (log.take n) :=
  ⟨by rw [List.length_take, List.length_take, h.1], fun i h1 h2 => by rw [List.getElem_take, List.getElem_take]; exact h.2 i _ _⟩
theorem Zp.drop {evs : List Value} {log : List (List Int)} (h : Zp M w evs log) (n : Nat) : Zp M w (evs.drop n) (log.drop n) :=
  ⟨by rw [List.length_drop, List.length_drop, h.1], fun i h1 h2 => by rw [List.getElem_drop, List.getElem_drop]; exact h.2 _ _ _⟩
theorem Zp.app {evs evs2 : List Value} {log log2 : List (List Int)} (h : Zp M w evs log) (h' : Zp M w evs2 log2) : Zp M w (evs ++ evs2) (log ++ log2) := by
  refine ⟨by rw [List.length_append, List.length_append, h.1, h'.1], fun i h1 h2 => ?_⟩
  rw [List.getElem_append, List.getElem_append]
  have e := h.1
  by_cases q : i < evs.length
  · rw [dif_pos q, dif_pos (by omega)]
    exact h.2 i _ _
  · rw [dif_neg q, dif_neg (by omega)]
    have := h'.2 (i - evs.length) (by rw [List.length_append] at h1; omega) (by rw [List.length_append] at h2; omega)
    simpa [e] using this
theorem Zp.ext {evs : List Value} {log : List (List Int)} (h : Zp M w evs log) {S : Nat → Prop} (hx : Ext M M' w w') (hk : Kp S w w') (hS : ∀ b, S b → b < w.heap.size → M b) : Zp M' w' evs log :=
  ⟨h.1, fun i h1 h2 => (h.2 i h1 h2).ext hx hk hS⟩
theorem Jn.tyJ (h : Jn M w j lob J) {b : Nat} (hb : lob = some b) : b ≠ j := by
  obtain ⟨sv, lv, r1, _, evs, s1, _⟩ := h.ex
  obtain ⟨l, hl⟩ := s1.row hb
  exact row_ne hl r1 (by decide)
/-- another log is put into a journal, and its count -/
theorem jput {ob1 : Option Nat} {v1 : Value} {evs1 : List Value} {log1 : List (List Int)} (h : Jn M w j lob J) (hk : Kp (fun b => lob = some b) w w1) (s1 : Sl one 1 w1 37 ob1 v1 evs1) (z1 : Zp M w evs1 log1) (ho : ob1 = lob ∨ ∃ b, ob1 = some b ∧ w.heap.size ≤ b)
    (hl : log1.length ≤ 1000000) (ht : tot log1 ≤ 1099511627776) {X : World → Prop}
    (hX : ∀ w3 M3, Ext M M3 w w3 → Kp (fun b => lob = some b ∨ b = j) w w3 → (∀ b, ob1 = some b → lob = some b ∨ w.heap.size ≤ b) → Jn M3 w3 j ob1 { J with log := log1, safe := log1.length } → X w3) :
    st1 (P j 5) v1 (fun w => ld1 (P j 5) (fun t w => lnS t (fun t w => st1 (P j 6) t (fun w => X w) w) w) w) w1 := by
  obtain ⟨sv, lv, r, hs, evs, f1, f2, f3, f4⟩ := h.ex
  have nj : ∀ b, lob = some b → b ≠ j := fun b q => h.tyJ q
  have r1 := hk.row r fun q => nj j q rfl
  have hsv := sl_scal s1
  have hlen : evs1.length = log1.length := z1.1
  have obj : ∀ b, ob1 = some b → b ≠ j := fun b q => by
    obtain ⟨l, hl⟩ := s1.row q
    exact row_ne hl r1 (by decide)
  refine st1_r r1 (show 5 < 10 by decide) hsv fun w2 r2 hk2 hz2 => ?_
  replace r2 : Row w2 j 67 ({ J with log := log1 }.cells sv v1) := r2
  have s2 := s1.kp hk2 fun b q q2 => obj b q q2
  refine ld1_r (v := v1) r2 rfl ?_
  refine s2.ln ?_
  rw [hlen]
  refine st1_r r2 (show 6 < 10 by decide) rfl fun w3 r3 hk3 hz3 => ?_
  replace r3 : Row w3 j 67 ({ J with log := log1, safe := log1.length }.cells sv v1) := r3
  have k3 : Kp (fun b => lob = some b ∨ b = j) w w3 := ((hk.mono fun b _ q => Or.inl q).trans (hk2.mono fun b _ q => .inr q)).trans (hk3.mono fun b _ q => .inr q)
  have own : ∀ b, lob = some b ∨ b = j → b < w.heap.size → M b := fun b q _ => q.elim (f2 b) (fun q => q ▸ h.mj)
  have hx : Ext M (fun b => M b ∨ ob1 = some b) w w3 := Ext.add? h.lt k3 (fun b q => by
    rcases ho with q2 | ⟨c, q2, hc⟩
    · exact .inl (f2 b (q2 ▸ q))
    · rw [q2] at q; cases q; exact .inr hc) (fun b q => by
    obtain ⟨l, hl⟩ := s1.row q
    have := hl.lt
    omega)
  have hok := h.ok
  have z3 := z1.ext hx k3 own
  refine hX w3 _ hx k3 (fun b q => ?_) ⟨⟨sv, v1, r3, hs.ext hx k3 own, evs1, (s2.kp hk3 fun b q q2 => obj b q q2), fun b q => .inr q, z3.1, z3.2⟩, .inl h.mj, ⟨Nat.le_refl _, hok.l0, hok.l1, ht, hok.cp, by show log1.length ≤ _; omega⟩, hx.lt⟩
  rcases ho with q2 | ⟨c, q2, hc⟩
  · exact .inl (q2 ▸ q)
  · rw [q2] at q; cases q; exact .inr hc
end
end Go.Proofs.Qxb6500896aGreat
