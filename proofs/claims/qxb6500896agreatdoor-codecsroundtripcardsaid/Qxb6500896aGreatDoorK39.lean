import Derived.Test.Qxb6500896aGreatDoorK38
namespace Go.Proofs.Qxb6500896aGreatDoor
open Go.Sh Go.RowKit
set_option linter.unusedVariables false
set_option linter.unusedSimpArgs false

structure Iss where
  id : Int
  slot : Int
def isC2 (x : Iss) : List Value := [I x.id, I x.slot]
theorem isC2_len (x : Iss) : (isC2 x).length = 2 := rfl
theorem isC2_sc (x : Iss) : (isC2 x).all scal = true := rfl
/-- the oldest that fits, and its slot -/
def firstOf (C : Cfg) (rs : List Rec) (now : Int) : List Int → Option (Int × Int)
  | [] => none
  | id :: l => match tOffer C rs id (now + 1) (now + C.of) with
    | some s => some (id, s)
    | none => firstOf C rs now l
structure SrvS where
  rs : List Rec
  ls : List (List Int)
  iss : List Iss
/-- one attraction is served -/
def srvA (C : Cfg) (now : Int) (i : Nat) : Nat → SrvS → SrvS
  | 0, s => s
  | f + 1, s => match firstOf C s.rs now (lnOf s.ls (i : Nat)) with
    | none => s
    | some p => srvA C now i f ⟨(tIssue p.1 p.2 s.rs).1, tRemove p.1 s.ls, s.iss ++ [⟨p.1, p.2⟩]⟩
/-- the attractions from i on are served -/
def srvL (C : Cfg) (now : Int) : Nat → Nat → SrvS → SrvS
  | 0, _, s => s
  | n + 1, i, s => srvL C now n (i + 1) (srvA C now i (waits s.rs + 1) s)
def tServe (C : Cfg) (now : Int) (rs : List Rec) (ls : List (List Int)) : SrvS := srvL C now ls.length 0 ⟨rs, ls, []⟩
theorem offF_b {C : Cfg} {rs : List Rec} {r : Rec} : ∀ {n : Nat} {s x : Int}, offF C rs r n s = some x → s ≤ x ∧ x < s + ((n : Nat) : Int)
  | 0, s, x, h => by cases h
  | n + 1, s, x, h => by
    rw [offF] at h
    split at h
    · cases h; omega
    · have := offF_b h; omega
theorem tOffer_b {C : Cfg} {rs : List Rec} {id fr to x : Int} (h : tOffer C rs id fr to = some x) : has rs id ∧ (rget rs id).st = 7 ∧ fr ≤ x ∧ x ≤ to := by
  unfold tOffer at h
  split at h
  · rename_i q
    have := offF_b h
    exact ⟨q.1, q.2, by omega, by omega⟩
  · cases h
theorem firstOf_mem {C : Cfg} {rs : List Rec} {now : Int} : ∀ {l : List Int} {p : Int × Int}, firstOf C rs now l = some p → p.1 ∈ l ∧ tOffer C rs p.1 (now + 1) (now + C.of) = some p.2
  | [], p, h => by cases h
  | id :: l, p, h => by
    rw [firstOf] at h
    split at h
    · rename_i s hs
      cases h
      exact ⟨List.mem_cons_self, hs⟩
    · have := firstOf_mem h
      exact ⟨List.mem_cons_of_mem _ this.1, this.2⟩
theorem has_at {rs : List Rec} {id : Int} (h : has rs id) : ∃ i : Nat, id = ((i + 1 : Nat) : Int) ∧ i < rs.length := ⟨(id - 1).toNat, by have := h.1; omega, by have := h.1; have := h.2; omega⟩
theorem countP_set {p : Rec → Bool} : ∀ {rs : List Rec} {i : Nat} {r : Rec} (h : i < rs.length), p rs[i] = true → p r = false → (rs.set i r).countP p + 1 = rs.countP p
  | [], i, r, h, _, _ => by simp at h
  | a :: rs, 0, r, h, h1, h2 => by
    rw [List.set_cons_zero, List.countP_cons_of_neg (by rw [h2]; simp), List.countP_cons_of_pos (by simpa using h1)]
  | a :: rs, i + 1, r, h, h1, h2 => by
    have := countP_set (p := p) (rs := rs) (i := i) (r := r) (by simpa using h) (by simpa using h1) h2
    rw [List.set_cons_succ, List.countP_cons, List.countP_cons]
    omega
theorem tIssue_w {rs : List Rec} {id slot : Int} (h : has rs id) (h7 : (rget rs id).st = 7) : waits (tIssue id slot rs).1 + 1 = waits rs := by
  obtain ⟨i, hi, hlt⟩ := has_at h
  unfold tIssue waits
  rw [if_pos h, if_pos h7, rset_at hi]
  rw [rget_at hi hlt] at h7 ⊢
  exact countP_set hlt (by rw [h7]; rfl) rfl
/-- what is known of table and lines while they are served -/
structure TS (C : Cfg) (rs : List Rec) (ls : List (List Int)) : Prop where
  ti : TI C rs
  tw : TW C rs
  ids : ∀ l ∈ ls, ∀ x ∈ l, N63 x
theorem TS.issue {C : Cfg} {rs : List Rec} {ls : List (List Int)} {id slot : Int} (h : TS C rs ls) (hid : has rs id) (h7 : (rget rs id).st = 7) (hs : 0 ≤ slot ∧ slot ≤ 4398046511104) : TS C (tIssue id slot rs).1 (tRemove id ls) := by
  obtain ⟨i, hi, hlt⟩ := has_at hid
  have hmem := List.getElem_mem hlt
  unfold tIssue
  rw [if_pos hid, if_pos h7, rset_at hi]
  rw [rget_at hi hlt] at h7 ⊢
  have rl := h.ti.rl _ hmem
  have hw := h.tw _ hmem h7
  have key : ∀ r ∈ rs.set i { rs[i] with st := 8, legs := [⟨rs[i].ln - 1, slot⟩] }, r ∈ rs ∨ r = { rs[i] with st := 8, legs := [⟨rs[i].ln - 1, slot⟩] } := fun r hr => List.mem_or_eq_of_mem_set hr
  have hln := rl.rn.ln
  unfold N63 at hln
  refine ⟨⟨fun r hr => ?_, fun r hr hl => ?_⟩, fun r hr h7' => ?_, fun l hl x hx => ?_⟩
  · rcases key r hr with q | q
    · exact h.ti.rl r q
    · subst q
      refine ⟨⟨rl.rb.s0, rl.rb.s1, by simp, fun l hl => ?_⟩, ⟨rl.rn.id, (show N63 8 from ⟨by decide, by decide⟩), rl.rn.cl, rl.rn.sz, rl.rn.ln, rl.rn.ex, fun l hl => ?_, by simp⟩, rl.cl, fun l hl => ?_⟩
      · have : l = ⟨rs[i].ln - 1, slot⟩ := by simpa using hl
        subst this; exact hs
      · have : l = ⟨rs[i].ln - 1, slot⟩ := by simpa using hl
        subst this
        refine ⟨⟨?_, ?_⟩, ?_, ?_⟩ <;> simp only <;> omega
      · have : l = ⟨rs[i].ln - 1, slot⟩ := by simpa using hl
        subst this
        simp only
        omega
  · rcases key r hr with q | q
    · exact h.ti.lv r q hl
    · subst q; simp
  · rcases key r hr with q | q
    · exact h.tw r q h7'
    · subst q; simp at h7'
  · unfold tRemove at hl
    obtain ⟨l0, hl0, rfl⟩ := List.mem_map.1 hl
    exact h.ids l0 hl0 x (List.mem_filter.1 hx).1
end Go.Proofs.Qxb6500896aGreatDoor
