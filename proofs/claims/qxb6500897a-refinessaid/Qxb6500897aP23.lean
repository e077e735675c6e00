import Derived.Test.Qxb6500897aP22
namespace Go.Proofs.Qxb6500897a
open Go.Sh Go.RowKit
set_option linter.unusedVariables false
set_option linter.unusedSimpArgs false

/-- what check answers, by the attractions -/
def chkP (now attr slot cls n : Int) (r : Nat) : Int :=
  if attr < 0 ∨ 4 ≤ attr then 1
  else if cls < 0 ∨ 3 ≤ cls then 2
  else if n < 1 then 3
  else if slot < now - (if r = 0 then 0 else dw attr.toNat - 1) ∨ now + 6 - 1 + (if r = 2 then dw attr.toNat - 1 else 0) < slot then 4
  else 0

theorem Good.chk {now : Int} {ts : List Tab} {L : List Ent} (h : Good now ts L) (attr slot cls n : Int) (r : Nat) : chk 6 now ts attr slot cls n r = chkP now attr slot cls n r := by
  unfold Go.Proofs.Qxb6500897a.chk chkP
  rw [h.len]
  by_cases h1 : attr < 0 ∨ 4 ≤ attr
  · rw [if_pos h1, if_pos (by omega)]
  rw [if_neg h1, if_neg (by omega)]
  have ha : attr.toNat < ts.length := by rw [h.len]; omega
  have e : (ts[attr.toNat]?.map (·.att.dwell)).getD 0 = dw attr.toNat := by
    rw [List.getElem?_eq_getElem ha]
    show ts[attr.toNat].att.dwell = _
    rw [(h.ring _ ha).att]
  rw [e]

theorem Good.set {now : Int} {ts : List Tab} {L : List Ent} (h : Good now ts L) {a c : Nat} {s n : Int} (ha : a < ts.length) (hi : Inv now (L ++ [⟨a, s, c, n⟩])) (s0 : now - (dw a - 1) ≤ s) (s1 : s ≤ now + 5) (hc : c < 3) :
    Good now (ts.set a (addT ts[a] (ps ts[a] s) c n)) (L ++ [⟨a, s, c, n⟩]) := by
  refine ⟨hi, by simpa using h.len, fun b hb => ?_⟩
  have hb' : b < ts.length := by simpa using hb
  by_cases hab : a = b
  · subst hab
    rw [List.getElem_set_self]
    exact (h.ring a ha).add h.inv.n0 s0 s1 hc
  · rw [List.getElem_set_ne hab]
    exact (h.ring b hb').other hab
end Go.Proofs.Qxb6500897a
