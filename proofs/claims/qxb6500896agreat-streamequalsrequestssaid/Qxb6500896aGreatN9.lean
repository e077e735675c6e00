import Derived.Test.Qxb6500896aGreatK73
namespace Go.Proofs.Qxb6500896aGreat
open Go.Sh Go.RowKit
set_option linter.unusedVariables false
set_option linter.unusedSimpArgs false

/-- the limits of a journal stay, and its log fits -/
structure Jlm (a b c : Int) (J : Jr) : Prop where
  mr : J.mr = a
  cp : J.cp = b
  ms : J.ms = c
  tt : ((tot J.log : Nat) : Int) ≤ b
section
variable {C : Cfg} {σ σ' : Sg} {J J' : Jr} {q : Rq} {a b c : Int}
theorem Jlm.snap (hb : 0 ≤ b) (h : Jlm a b c J) : Jlm a b c (snJ C σ J) := ⟨h.mr, h.cp, h.ms, by show ((tot [] : Nat) : Int) ≤ b; simpa [tot] using hb⟩
theorem Jlm.snapS (hb : 0 ≤ b) (h : Jlm a b c J) (hi : RgI C σ J) : Jlm a b c (Go.Proofs.Qxb6500896aGreat.snapS C σ J).2.1 := by
  rcases snapS0 hi with ⟨q, _⟩ | q
  · rw [q]; exact h
  · rw [q]; exact h.snap hb
theorem Jlm.room (hb : 0 ≤ b) (h : Jlm a b c J) (hi : RgI C σ J) (n : Int) : Jlm a b c (roomS C σ J n).2.1 := by
  unfold roomS
  by_cases h1 : n ≤ roomR J
  · rw [if_pos h1]; exact h
  · rw [if_neg h1]
    by_cases h2 : σ.tail = 0
    · rw [if_pos h2]; exact h
    · rw [if_neg h2]
      split
      · exact h.snapS hb hi
      · exact h.snapS hb hi
theorem Jlm.app (h : Jlm a b c J) {x : List Int} (hx : ((x.length : Nat) : Int) ≤ roomR J) (h0 : 0 < x.length) : Jlm a b c { J with log := J.log ++ [x] } := by
  refine ⟨h.mr, h.cp, h.ms, ?_⟩
  show ((tot (J.log ++ [x]) : Nat) : Int) ≤ b
  rw [tot_app]
  have hcp := h.cp
  unfold roomR at hx
  simp only at hx
  split at hx <;> split at hx <;> omega
theorem Jlm.chg (cv : CV C) (hmb : C.mb ≤ 4000) (hb : 0 ≤ b) (h : Jlm a b c J) (hi : RgI C σ J) (hN : XprN q) : Jlm a b c (chgS C q σ J).2.1 := by
  unfold chgS
  simp only
  have h1 : RgI C { σ with ent := ent (σ.seq + 1) q } J := hi.same ⟨rfl, rfl, rfl, rfl⟩ rfl rfl rfl
  obtain ⟨h2, hc⟩ := h1.room cv hmb (((ent (σ.seq + 1) q).length : Nat) : Int)
  have hl := h.room hb h1 (((ent (σ.seq + 1) q).length : Nat) : Int)
  generalize roomS C { σ with ent := ent (σ.seq + 1) q } J (((ent (σ.seq + 1) q).length : Nat) : Int) = r at h2 hc hl ⊢
  by_cases c0 : r.2.2 = 0
  · rw [if_pos c0]
    have hroom : (((ent (σ.seq + 1) q).length : Nat) : Int) ≤ roomR r.2.1 := by
      rcases hc with q | q
      · exact q.2
      · rw [c0] at q; exact absurd q (by decide)
    by_cases c1 : (apS C q r.1).2.code = 0
    · rw [if_pos c1]
      unfold wrtS
      rw [appJ0 h2.off h2.lf hroom (ent_len hN.ll).1, if_pos rfl, if_pos rfl]
      exact hl.app hroom (ent_len hN.ll).1
    · rw [if_neg c1]; exact hl
  · rw [if_neg c0]; exact hl
theorem Jlm.stg (cv : CV C) (hmb : C.mb ≤ 4000) (hb : 0 ≤ b) (h : Jlm a b c J) (hi : RgI C σ J) (hR : RqN q) : Jlm a b c (stgS C q σ J).2.1 := by
  unfold stgS
  simp only
  have h1 : RgI C { σ with sr := w1 σ.sr } J := hi.same ⟨rfl, rfl, rfl, rfl⟩ rfl rfl rfl
  rw [if_neg (by rw [hi.dn]; decide)]
  by_cases c0 : xpr q = false
  · rw [if_pos c0]; exact h
  · rw [if_neg c0]
    have hN := xprN hR (by simpa using c0)
    by_cases c1 : valid C σ.now q = 0
    · rw [if_pos c1]
      by_cases c2 : isQ q.op = true
      · rw [if_pos c2]; exact h
      · rw [if_neg c2]; exact h.chg cv hmb hb h1 hN
    · rw [if_neg c1]; exact h
theorem Jlm.stb {bs : List Int} (cv : CV C) (hmb : C.mb ≤ 4000) (hb : 0 ≤ b) (h : Jlm a b c J) (hi : RgI C σ J) : Jlm a b c (stbS C bs σ J).2.1 := by
  unfold stbS
  rw [if_neg (by rw [hi.dn]; decide)]
  split
  · rename_i h0; exact h.stg cv hmb hb hi (dec_x h0).rq
  · exact h
theorem Jlm.set (cv : CV C) (hmb : C.mb ≤ 4000) (hb : 0 ≤ b) (h : Jlm a b c J) (hi : RgI C σ J) : Jlm a b c (setS C σ J).2.1 := by
  unfold setS
  rw [if_neg (by rw [hi.dn]; decide)]
  by_cases c0 : σ.loose = 0
  · rw [if_pos c0]; exact h
  · rw [if_neg c0, comJ0 hi.off hi.lf, if_pos rfl]
    have h2 : Jlm a b c { J with safe := J.log.length } := ⟨h.mr, h.cp, h.ms, h.tt⟩
    have h1 : RgI C { σ with loose := 0 } { J with safe := J.log.length } := by
      obtain ⟨σ1, r1, r2⟩ := hi.rp
      refine ⟨hi.g, hi.dn, hi.off, hi.lf, hi.tl, Nat.le_refl _, ?_, ⟨hi.jb.s, hi.jb.l, hi.jb.n⟩, ⟨σ1, r1, ⟨r2.now, r2.rs, r2.ls, r2.seq⟩⟩⟩
      show (0 : Int) = ((J.log.length - J.log.length : Nat) : Int)
      simp
    unfold aftS
    split
    · exact h2
    · exact h2.snapS hb h1
theorem Jlm.hnd {bs : List Int} (cv : CV C) (hmb : C.mb ≤ 4000) (hb : 0 ≤ b) (h : Jlm a b c J) (hi : RgI C σ J) (hB : By bs) (hs : σ.seq + 1 ≤ 9223372036854775807) : Jlm a b c (hndS C bs σ J).2.1 :=
  (h.stb cv hmb hb hi).set cv hmb hb (hi.stb cv hmb hB hs)
theorem Jlm.zero : Jlm a b c (jr0 a b c) ↔ 0 ≤ b := ⟨fun h => by have := h.tt; simpa [jr0, tot] using this, fun h => ⟨rfl, rfl, rfl, by simpa [jr0, tot] using h⟩⟩
end
end Go.Proofs.Qxb6500896aGreat
