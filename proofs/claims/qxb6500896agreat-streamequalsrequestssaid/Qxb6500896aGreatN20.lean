import Derived.Test.Qxb6500896aGreatN13
namespace Go.Proofs.Qxb6500896aGreat
open Go.Sh Go.RowKit
set_option linter.unusedVariables false
set_option linter.unusedSimpArgs false

section
variable {C : Cfg} {σ σ' : Sg} {J J' : Jr} {q : Rq} {bs : List Int}
/-- what has been carried out -/
structure Done (C : Cfg) (q : Rq) (σ σ' : Sg) (p : Rp) : Prop where
  p : p = (apS C q σ).2
  c : (apS C q σ).2.code = 0
  now : σ'.now = (apS C q σ).1.now
  rs : σ'.rs = (apS C q σ).1.rs
  ls : σ'.ls = (apS C q σ).1.ls
  seq : σ'.seq = σ.seq + 1
theorem chg_done (hc : (chgS C q σ J).2.2.code = 0) : Done C q σ (chgS C q σ J).1 (chgS C q σ J).2.2 := by
  unfold chgS at hc ⊢
  simp only at hc ⊢
  have hsame := roomS_same C { σ with ent := ent (σ.seq + 1) q } J (((ent (σ.seq + 1) q).length : Nat) : Int)
  generalize roomS C { σ with ent := ent (σ.seq + 1) q } J (((ent (σ.seq + 1) q).length : Nat) : Int) = r at hsame hc ⊢
  have c0 : Core σ r.1 := ⟨hsame.now, hsame.rs, hsame.ls, hsame.seq⟩
  by_cases c1 : r.2.2 = 0
  · rw [if_pos c1] at hc ⊢
    by_cases c2 : (apS C q r.1).2.code = 0
    · rw [if_pos c2] at hc ⊢
      obtain ⟨a1, a2, a3, a4⟩ := apS_core (C := C) (q := q) c0
      have hk := apS_keep C q r.1
      unfold wrtS at hc ⊢
      by_cases c3 : (appJ r.2.1 (ent (σ.seq + 1) q)).2 = 0
      · rw [if_pos c3, if_pos rfl] at hc ⊢
        exact ⟨a1, by rw [← a1]; exact c2, a2, a3, a4, by show (apS C q r.1).1.seq + 1 = _; rw [hk.2.1, c0.seq]⟩
      · rw [if_neg c3, if_neg (show ¬ (19 : Int) = 0 by decide)] at hc
        exact absurd hc (show ¬ (19 : Int) = 0 by decide)
    · rw [if_neg c2] at hc
      exact absurd hc c2
  · rw [if_neg c1] at hc
    exact absurd hc c1
theorem stg_done (hc : (stgS C q σ J).2.2.code = 0) (hq : isQ q.op = false) : Done C q σ (stgS C q σ J).1 (stgS C q σ J).2.2 := by
  unfold stgS at hc ⊢
  simp only at hc ⊢
  by_cases h0 : σ.down = true
  · rw [if_pos h0] at hc
    exact absurd hc (show ¬ (19 : Int) = 0 by decide)
  rw [if_neg h0] at hc ⊢
  by_cases h1 : xpr q = false
  · rw [if_pos h1] at hc
    exact absurd hc (show ¬ (1 : Int) = 0 by decide)
  rw [if_neg h1] at hc ⊢
  by_cases h2 : valid C σ.now q = 0
  · rw [if_pos h2, if_neg (by rw [hq]; decide)] at hc ⊢
    have d := chg_done hc
    obtain ⟨a1, a2, a3, a4⟩ := apS_core (C := C) (q := q) (show Core σ { σ with sr := w1 σ.sr } from ⟨rfl, rfl, rfl, rfl⟩)
    exact ⟨by rw [d.p, a1], by rw [← a1]; exact d.c, by rw [d.now, a2], by rw [d.rs, a3], by rw [d.ls, a4], d.seq⟩
  · rw [if_neg h2] at hc
    exact absurd hc h2
theorem Done.same {q : Rq} {σ σ' σ2 : Sg} {p : Rp} (d : Done C q σ σ' p) (h : Same σ' σ2) : Done C q σ σ2 p :=
  ⟨d.p, d.c, by rw [h.now, d.now], by rw [h.rs, d.rs], by rw [h.ls, d.ls], by rw [h.seq, d.seq]⟩
/-- a change that was answered OK -/
theorem hnd_done (hc : (hndS C bs σ J).2.2.code = 0) (h0 : (dec bs).2 = 0) (hq : isQ (dec bs).1.op = false) : Done C (dec bs).1 σ (hndS C bs σ J).1 (hndS C bs σ J).2.2 := by
  unfold hndS at hc ⊢
  simp only at hc ⊢
  by_cases h1 : (setS C (stbS C bs σ J).1 (stbS C bs σ J).2.1).2.2 = 0
  · rw [if_pos h1] at hc ⊢
    have key : Done C (dec bs).1 σ (stbS C bs σ J).1 (stbS C bs σ J).2.2 := by
      unfold stbS at hc ⊢
      by_cases hd : σ.down = true
      · rw [if_pos hd] at hc
        exact absurd hc (show ¬ (19 : Int) = 0 by decide)
      rw [if_neg hd, if_pos h0] at hc ⊢
      exact stg_done hc hq
    exact key.same (setS_same C _ _)
  · rw [if_neg h1] at hc
    exact absurd hc (show ¬ (19 : Int) = 0 by decide)
end
/-! ### serving, purely -/
section
variable {seq now : Int}
theorem tRemove_other {rs : List Rec} {ls : List (List Int)} {id : Int} {a b : Nat} (h : Ls park rs ls) (ha : a < ls.length) (hb : b < ls.length) (hid : id ∈ lnOf ls (a : Nat)) (hne : a ≠ b) : lnOf (tRemove id ls) (b : Nat) = lnOf ls (b : Nat) := by
  have e1 := lnOf_at ha
  have e2 := lnOf_at hb
  have : lnOf (tRemove id ls) (b : Nat) = (lnOf ls (b : Nat)).filter (· != id) := by
    unfold lnOf tRemove
    rw [List.getElem?_map]
    cases ls[(((b : Nat) : Int)).toNat]? <;> rfl
  rw [this]
  refine List.filter_eq_self.2 fun y hy => ?_
  rw [bne_iff_ne]
  intro e
  subst e
  rw [e1] at hid
  rw [e2] at hy
  have h1 := (h.at_ a ha _ hid).2.2
  have h2 := (h.at_ b hb _ hy).2.2
  omega
theorem srvA_other {a b : Nat} (ha : a < 3) (hb : b < 3) (hne : a ≠ b) : ∀ {f : Nat} {s : SrvS}, Gd park seq now s.rs s.ls → lnOf (srvA park now a f s).ls (b : Nat) = lnOf s.ls (b : Nat)
  | 0, s, g => rfl
  | f + 1, s, g => by
    rw [srvA]
    split
    · rfl
    · rename_i p hp
      obtain ⟨hm, ho⟩ := firstOf_mem hp
      have g' := g.issue park_cv ho
      refine (srvA_other ha hb hne (f := f) (s := ⟨(tIssue p.1 p.2 s.rs).1, tRemove p.1 s.ls, s.iss ++ [⟨p.1, p.2⟩]⟩) g').trans ?_
      have hl := g.li.len
      have h3 : park.ats.length = 3 := rfl
      exact tRemove_other g.li (by omega) (by omega) hm hne
/-- what has been issued is issued -/
def IsI (now : Int) (s : SrvS) : Prop := ∀ p ∈ s.iss, has s.rs p.id ∧ (rget s.rs p.id).st = 8 ∧ ∃ l, (rget s.rs p.id).legs = [l] ∧ now + 1 ≤ l.s
theorem IsI.step {s : SrvS} {p : Int × Int} (h : IsI now s) (ho : tOffer park s.rs p.1 (now + 1) (now + park.of) = some p.2) : IsI now ⟨(tIssue p.1 p.2 s.rs).1, tRemove p.1 s.ls, s.iss ++ [⟨p.1, p.2⟩]⟩ := by
  obtain ⟨hh, h7, h1, h2⟩ := tOffer_b ho
  intro x hx
  have e : (tIssue p.1 p.2 s.rs).1 = rset s.rs p.1 { rget s.rs p.1 with st := 8, legs := [⟨(rget s.rs p.1).ln - 1, p.2⟩] } := by
    unfold tIssue; rw [if_pos hh, if_pos h7]
  simp only at hx ⊢
  rw [e]
  rcases List.mem_append.1 hx with hx | hx
  · obtain ⟨a1, a2, a3⟩ := h x hx
    have hne : x.id ≠ p.1 := fun e => by rw [e, h7] at a2; exact absurd a2 (by decide)
    rw [rget_rset hh a1, if_neg hne]
    exact ⟨(rget_set hh).2 a1, a2, a3⟩
  · rw [List.mem_singleton.1 hx]
    simp only
    rw [rget_rset hh hh, if_pos rfl]
    exact ⟨(rget_set hh).2 hh, rfl, _, rfl, h1⟩
theorem IsI.srvA {a : Nat} : ∀ {f : Nat} {s : SrvS}, IsI now s → IsI now (srvA park now a f s)
  | 0, s, h => h
  | f + 1, s, h => by
    rw [Go.Proofs.Qxb6500896aGreat.srvA]
    split
    · exact h
    · rename_i p hp
      exact IsI.srvA (s := ⟨(tIssue p.1 p.2 s.rs).1, tRemove p.1 s.ls, s.iss ++ [⟨p.1, p.2⟩]⟩) (h.step (firstOf_mem hp).2)
/-- and is so after the sweep -/
theorem IsI.sweep {s : SrvS} (h : IsI now s) : ∀ p ∈ s.iss, has (tSweep park (now + 1) s.rs) p.id ∧ rget (tSweep park (now + 1) s.rs) p.id = rget s.rs p.id := by
  intro p hp
  obtain ⟨h1, h2, l, h3, h4⟩ := h p hp
  have hl : (tSweep park (now + 1) s.rs).length = s.rs.length := by unfold tSweep; rw [List.length_map]
  have h1' : has (tSweep park (now + 1) s.rs) p.id := has_len hl h1
  refine ⟨h1', ?_⟩
  obtain ⟨j, hid, hj⟩ := has_at h1
  have hj' : j < (tSweep park (now + 1) s.rs).length := by omega
  rw [rget_at hid hj] at h2 h3 ⊢
  rw [rget_at hid hj']
  have e : (tSweep park (now + 1) s.rs)[j] = swR park (now + 1) s.rs[j] := List.getElem_map _
  rw [e]
  unfold swR isE isS isL
  rw [h2]
  have hf : (fst0 s.rs[j]).s = l.s := by unfold fst0; rw [h3]; rfl
  rw [hf]
  have hrt : park.rt = 2 := rfl
  rw [hrt]
  have : ¬ l.s + 2 ≤ now + 1 := by omega
  simp [this]
end
end Go.Proofs.Qxb6500896aGreat
