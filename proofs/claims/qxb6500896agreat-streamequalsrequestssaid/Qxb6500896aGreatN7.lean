import Derived.Test.Qxb6500896aGreatN6
namespace Go.Proofs.Qxb6500896aGreat
open Go.Sh Go.RowKit
set_option linter.unusedVariables false
set_option linter.unusedSimpArgs false

section
variable {C : Cfg} {seq now id st cls sz attr skip : Int} {rs : List Rec} {ls : List (List Int)} {lg : List Leg} {q : Rq} {σ : Sg} {J : Jr}
theorem plF_b (hs : ∀ r ∈ rs, 0 ≤ r.sz ∧ r.sz ≤ 1073741824) : ∀ {l : List Int} {i : Nat} {ah : Int} {p : Nat × Int}, 0 ≤ ah → plF rs id l i ah = some p → i < p.1 ∧ p.1 ≤ i + l.length ∧ 0 ≤ p.2 ∧ p.2 ≤ ah + 1073741824 * ((l.length : Nat) : Int)
  | [], i, ah, p, h0, h => by cases h
  | x :: l, i, ah, p, h0, h => by
    rw [plF] at h
    have hz : 0 ≤ (rget rs x).sz ∧ (rget rs x).sz ≤ 1073741824 := by
      unfold rget
      cases hx : rs[(x - 1).toNat]? with
      | none => exact ⟨by decide, by decide⟩
      | some r => exact hs r (List.mem_of_getElem? hx)
    split at h
    · cases h
      simp only [List.length_cons]
      omega
    · have := plF_b hs (by omega) h
      simp only [List.length_cons]
      omega
theorem pkF_cap (h : ∀ x, inside C rs attr x 0 ≤ (attOf C attr).cap) (s : Int) : ∀ k, pkF C rs attr s k ≤ (attOf C attr).cap
  | 0 => h s
  | k + 1 => by
    rw [pkF]
    split
    · exact h _
    · exact pkF_cap h s k
theorem qR_rpn (cv : CV C) (hmb : C.mb ≤ 1000000) (g : SGd C σ) (hN : XprN q) (hv : valid C σ.now q = 0) (hop : 16 ≤ q.op ∧ q.op ≤ 24) : RpN (qR C q σ) := by
  have ho : 0 ≤ q.op ∧ q.op ≤ 255 := ⟨by omega, by omega⟩
  have hn := g.now
  have mc := cv.mc.2
  have ht := cv.ht
  have hz := cv.hz
  have hlen := g.len
  have mb := cv.mb.2
  have hRB := (g.ti cv).rb
  have hsq := g.seq
  have tl : σ.rs.length ≤ 16777216 := by omega
  have pg := cv.pg
  have idn := hN.id
  have lin := hN.li
  unfold N63 at idn lin
  unfold qR
  by_cases c1 : q.op = 16
  · rw [if_pos c1]
    unfold qGet
    split
    · rename_i hh
      refine { RpN.z with op := ho, recs := fun r hr => ?_, rl := by simp, one := fun _ _ => by simp }
      rw [List.mem_singleton.1 hr]
      exact g.rn _ (g.ids.rget hh).1
    · exact RpN.rf ⟨by decide, by decide⟩
  rw [if_neg c1]
  by_cases c2 : q.op = 17
  · rw [if_pos c2]
    unfold qList
    have h1 : 1 ≤ qFst q ∧ qFst q ≤ 9223372036854775807 := by unfold qFst; split <;> omega
    have h2 : 1 ≤ qLim C q ∧ qLim C q ≤ 16777216 := by unfold qLim; split <;> omega
    refine { RpN.z with op := ho, recs := fun r hr => g.rn r (List.mem_of_mem_drop (List.mem_of_mem_take hr)), rl := ?_, nx := ?_, one := fun h => absurd h c1 }
    · simp only [List.length_take, List.length_drop]; omega
    · simp only
      split
      · exact ⟨by omega, by omega⟩
      · exact z63
  rw [if_neg c2]
  by_cases c3 : q.op = 18
  · rw [if_pos c3]
    obtain ⟨v1, v2, v3⟩ := valid_slot hv c3
    obtain ⟨a, ha⟩ : ∃ a : Nat, q.at' = a := ⟨q.at'.toNat, by omega⟩
    have hal : a < C.ats.length := by omega
    obtain ⟨⟨cp0, cp1⟩, _⟩ := cv.at_ _ (List.getElem_mem hal)
    unfold qSlot
    have i1 := ins_b (C := C) hRB tl q.at' q.sl 0
    have i2 := fun c => ent_b hRB tl q.at' q.sl c 0
    have i3 := pkF_b (C := C) hRB tl q.at' q.sl ((attOf C q.at').dw - 1).toNat
    have i4 := pkF_cap (C := C) (rs := σ.rs) (attr := q.at') (fun x => g.ld.cap _ x v1.1 v1.2) q.sl ((attOf C q.at').dw - 1).toNat
    have e : attOf C q.at' = C.ats[a] := by rw [ha, attOf_at hal]
    rw [e] at i3 i4 ⊢
    refine { RpN.z with op := ho, oc := ⟨i1.1, by simp only; omega⟩, e0 := ⟨(i2 0).1, by have := (i2 0).2; simp only; omega⟩, e1 := ⟨(i2 1).1, by have := (i2 1).2; simp only; omega⟩, e2 := ⟨(i2 2).1, by have := (i2 2).2; simp only; omega⟩, fr := ⟨by simp only; omega, by simp only; omega⟩, one := fun h => absurd h c1 }
  rw [if_neg c3]
  by_cases c4 : q.op = 19
  · rw [if_pos c4]
    have v1 := valid_line hv c4
    obtain ⟨a, ha⟩ : ∃ a : Nat, q.at' = a := ⟨q.at'.toNat, by omega⟩
    have hal : a < σ.ls.length := by have := g.li.len; omega
    unfold qLine
    rw [ha, lnOf_at hal]
    have hw : waits σ.rs ≤ σ.rs.length := List.countP_le_length
    have hl := g.li.wt g.ids
    have := lens_le (List.getElem_mem hal)
    refine { RpN.z with op := ho, wt := fun x hx => g.n_id cv (g.li.at_ a hal x hx).1, wl := ?_, one := fun h => absurd h c1 }
    simp only
    omega
  rw [if_neg c4]
  by_cases c5 : q.op = 20
  · rw [if_pos c5]
    unfold qClock
    exact { RpN.z with op := ho, now := ⟨by simp only; omega, by simp only; omega⟩, la := ⟨by simp only; omega, by simp only; omega⟩, gr := ⟨by simp only; omega, by simp only; omega⟩, one := fun h => absurd h c1 }
  rw [if_neg c5]
  by_cases c6 : q.op = 21
  · rw [if_pos c6]
    obtain ⟨v1, v2, v3⟩ := valid_join hv (.inr c6)
    have hb := att_b cv v1.1 v1.2
    have sl := hN.sl
    unfold N63 at sl
    obtain ⟨a, ha⟩ : ∃ a : Nat, q.at' = a := ⟨q.at'.toNat, by omega⟩
    have hal : a < C.ats.length := by omega
    obtain ⟨_, ⟨dw0, dw1⟩, _⟩ := cv.at_ _ (List.getElem_mem hal)
    have e : attOf C q.at' = C.ats[a] := by rw [ha, attOf_at hal]
    unfold qFind
    split
    · exact RpN.rf ⟨by decide, by decide⟩
    · split
      · rename_i s hs
        have hf : σ.now ≤ fndFrom q σ ∧ fndFrom q σ ≤ 9223372036854775807 := by unfold fndFrom; split <;> omega
        have := fndF_b (by omega) hb.2.1 hs
        rw [e] at this
        refine { RpN.z with op := ho, sl := ⟨by simp only; omega, ?_⟩, one := fun h => absurd h c1 }
        by_cases hb2 : σ.now + C.hz - 1 + C.ats[a].dw - fndFrom q σ ≤ 0
        · exfalso
          rw [e, show (σ.now + C.hz - 1 + C.ats[a].dw - fndFrom q σ).toNat = 0 by omega, fndF] at hs
          cases hs
        · simp only; omega
      · exact RpN.rf ⟨by decide, by decide⟩
  rw [if_neg c6]
  by_cases c7 : q.op = 22
  · rw [if_pos c7]
    unfold qQuo
    split
    · exact { RpN.z with op := ho, id := n_len cv g, ex := ⟨by simp only; omega, by simp only; omega⟩, one := fun h => absurd h c1 }
    · exact RpN.rf tCheck_c.b
  rw [if_neg c7]
  by_cases c8 : q.op = 23
  · rw [if_pos c8]
    unfold qCnt
    refine { RpN.z with op := ho, cnt := fun x hx => ?_, one := fun h => absurd h c1 }
    unfold cnts at hx
    obtain ⟨s, _, rfl⟩ := List.mem_map.1 hx
    exact cnt_N cv g _
  rw [if_neg c8]
  by_cases c9 : q.op = 24
  · rw [if_pos c9]
    unfold qPlace
    split
    · rename_i hh
      split
      · rename_i h7
        have hmem := (g.ids.rget hh).1
        have hw := g.tw _ hmem h7
        have ln := (g.rn _ hmem).ln
        unfold N63 at ln
        split
        · rename_i p hp
          have hs : ∀ r ∈ σ.rs, 0 ≤ r.sz ∧ r.sz ≤ 1073741824 := fun r hr => ⟨(hRB r hr).s0, (hRB r hr).s1⟩
          have hb := plF_b hs (by omega) hp
          have hll : (lnOf σ.ls ((rget σ.rs q.id).ln - 1)).length ≤ 16777216 := by
            unfold lnOf
            cases hx : σ.ls[((rget σ.rs q.id).ln - 1).toNat]? with
            | none => simp
            | some l =>
              have := g.li.mx l (List.mem_of_getElem? hx)
              have := cv.mx.2
              simp only [Option.getD_some]
              omega
          refine { RpN.z with op := ho, at' := ⟨by simp only; omega, by simp only; omega⟩, pos := ⟨by simp only; omega, by simp only; omega⟩, ah := ⟨hb.2.2.1, by have := hb.2.2.2; simp only; omega⟩, one := fun h => absurd h c1 }
        · exact RpN.rf ⟨by decide, by decide⟩
      · exact RpN.rf ⟨by decide, by decide⟩
    · exact RpN.rf ⟨by decide, by decide⟩
  · rw [if_neg c9]; exact RpN.rf ⟨by decide, by decide⟩
theorem chgS_rpn (cv : CV C) (hmb : C.mb ≤ 1000000) (g : SGd C σ) (hv : valid C σ.now q = 0) (hop : 1 ≤ q.op ∧ q.op ≤ 9) : RpN (chgS C q σ J).2.2 := by
  unfold chgS
  simp only
  have hsame := roomS_same C { σ with ent := ent (σ.seq + 1) q } J (((ent (σ.seq + 1) q).length : Nat) : Int)
  have hrc := roomS_c (C := C) (σ := { σ with ent := ent (σ.seq + 1) q }) (J := J) (((ent (σ.seq + 1) q).length : Nat) : Int)
  generalize roomS C { σ with ent := ent (σ.seq + 1) q } J (((ent (σ.seq + 1) q).length : Nat) : Int) = r at hsame hrc ⊢
  have hap : RpN (apS C q r.1).2 := rpn_ap cv hmb (hsame.gd g) (by rw [hsame.now]; exact hv) hop
  split
  · split
    · split
      · exact hap
      · exact RpN.rf (wrtS_c _).b
    · exact RpN.rf hap.code
  · exact RpN.rf hrc.b
theorem stgS_rpn (cv : CV C) (hmb : C.mb ≤ 1000000) (g : σ.down = false → SGd C σ) (hR : RqN q) : RpN (stgS C q σ J).2.2 := by
  unfold stgS
  simp only
  split
  · exact RpN.rf ⟨by decide, by decide⟩
  · rename_i hd
    split
    · exact RpN.rf ⟨by decide, by decide⟩
    · rename_i hx
      have hN := xprN hR (by simpa using hx)
      have g := g (by simpa using hd)
      split
      · rename_i hv
        split
        · rename_i hq
          have hop : 16 ≤ q.op ∧ q.op ≤ 24 := by unfold isQ at hq; simpa using hq
          have hr : RpN (qR C q { σ with sr := w1 σ.sr }) := qR_rpn cv hmb (show SGd C { σ with sr := w1 σ.sr } from g) hN hv hop
          show RpN (ansS C q { σ with sr := w1 σ.sr }).2
          unfold ansS
          split
          · exact hr
          · exact RpN.rf hr.code
        · rename_i hq
          have hop : 1 ≤ q.op ∧ q.op ≤ 9 := by
            have := hN.op
            unfold isQ at hq
            simp only [Bool.and_eq_true, decide_eq_true_eq] at hq
            omega
          exact chgS_rpn cv hmb (show SGd C { σ with sr := w1 σ.sr } from g) hv hop
      · exact RpN.rf valid_c.b
theorem stbS_rpn {bs : List Int} (cv : CV C) (hmb : C.mb ≤ 1000000) (g : σ.down = false → SGd C σ) : RpN (stbS C bs σ J).2.2 := by
  unfold stbS
  split
  · exact RpN.rf ⟨by decide, by decide⟩
  · split
    · rename_i h; exact stgS_rpn cv hmb g (dec_x h).rq
    · exact RpN.rf (dec_c bs).b
end
end Go.Proofs.Qxb6500896aGreat
