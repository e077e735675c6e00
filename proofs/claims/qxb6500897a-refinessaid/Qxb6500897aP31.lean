import Derived.Test.Qxb6500897aP30
import Derived.Test.Qxb6500897aShApp
namespace Go.Proofs.Qxb6500897a
open Go.Sh Go.RowKit
set_option linter.unusedVariables false
set_option linter.unusedSimpArgs false

/-! ### the ledger's numbers are small -/
def Bnd (L : List Ent) : Prop := ∀ e ∈ L, -9 ≤ e.slot ∧ e.slot ≤ 95 ∧ -12 ≤ e.n ∧ e.n ≤ 12

theorem mFits_ok {now : Int} {L : List Ent} {attr slot cls n : Int} (h : mFits now L attr slot cls n = 0) (hi : Inv now L) :
    0 ≤ attr ∧ attr < 4 ∧ 0 ≤ cls ∧ cls < 3 ∧ 1 ≤ n ∧ now ≤ slot ∧ slot ≤ now + 5 ∧ n ≤ 12 := by
  unfold mFits at h
  by_cases hc : chkP now attr slot cls n 0 = 0
  · rw [if_pos hc] at h
    have hk := chkP_ok hc
    simp at hk
    have hb := pa_bd attr.toNat
    have hdw : (pa attr.toNat).dwell = dw attr.toNat := rfl
    have hq := hb.2.2.2.2 cls.toNat
    have := hi.en attr.toNat slot cls.toNat (by omega)
    unfold fitM at h
    split at h
    · split at h
      · omega
      · omega
    · omega
  · rw [if_neg hc] at h; exact absurd h hc

theorem mRel_ok {now : Int} {L : List Ent} {attr slot cls n : Int} (h : mRel now L attr slot cls n = 0) (hi : Inv now L) :
    0 ≤ attr ∧ attr < 4 ∧ 0 ≤ cls ∧ cls < 3 ∧ 1 ≤ n ∧ now - (dw attr.toNat - 1) ≤ slot ∧ slot ≤ now + 5 ∧ n ≤ 12 ∧ n ≤ ent L attr.toNat slot cls.toNat := by
  unfold mRel at h
  by_cases hc : chkP now attr slot cls n 1 = 0
  · rw [if_pos hc] at h
    have hk := chkP_ok hc
    simp at hk
    have hb := pa_bd attr.toNat
    have hq := hb.2.2.2.2 cls.toNat
    have := hi.en attr.toNat slot cls.toNat (by omega)
    split at h
    · omega
    · omega
  · rw [if_neg hc] at h; exact absurd h hc

theorem Bnd.add {L : List Ent} (h : Bnd L) {e : Ent} (he : -9 ≤ e.slot ∧ e.slot ≤ 95 ∧ -12 ≤ e.n ∧ e.n ≤ 12) : Bnd (L ++ [e]) := by
  intro x hx
  rcases List.mem_append.1 hx with hx | hx
  · exact h x hx
  · rw [List.mem_singleton] at hx; rw [hx]; exact he

theorem Bnd.step {now : Int} {L : List Ent} (h : Bnd L) (hi : Inv now L) (o : Op) : Bnd (stepL now L o) := by
  have n0 := hi.n0
  have n1 := hi.n1
  unfold stepL
  split
  · split
    · rename_i hf
      have := mFits_ok hf hi
      exact h.add (by show -9 ≤ o.slot ∧ o.slot ≤ 95 ∧ -12 ≤ o.n ∧ o.n ≤ 12; omega)
    · exact h
  split
  · split
    · rename_i hf
      have := mRel_ok hf hi
      have hb := pa_bd o.attr.toNat
      have hdw : (pa o.attr.toNat).dwell = dw o.attr.toNat := rfl
      exact h.add (by show -9 ≤ o.slot ∧ o.slot ≤ 95 ∧ -12 ≤ -o.n ∧ -o.n ≤ 12; omega)
    · exact h
  exact h

theorem stepL_len (now : Int) (L : List Ent) (o : Op) : (stepL now L o).length ≤ L.length + 1 := by
  unfold stepL
  split
  · split <;> simp
  split
  · split <;> simp
  simp

theorem insT_bd {a : Nat} {dw v : Int} {e : Ent} (h : -12 ≤ e.n ∧ e.n ≤ 12) : -12 ≤ insT a dw v e ∧ insT a dw v e ≤ 12 := by
  unfold insT; split <;> omega
theorem entT_bd {a c : Nat} {v : Int} {e : Ent} (h : -12 ≤ e.n ∧ e.n ≤ 12) : -12 ≤ entT a v c e ∧ entT a v c e ≤ 12 := by
  unfold entT; split <;> omega
theorem sum_bd {α : Type} {g : α → Int} : ∀ {L : List α}, (∀ e ∈ L, -12 ≤ g e ∧ g e ≤ 12) → -12 * (L.length : Int) ≤ (L.map g).sum ∧ (L.map g).sum ≤ 12 * (L.length : Int)
  | [], _ => by simp
  | e :: L, h => by
    have h1 := h e (by simp)
    have h2 := sum_bd (L := L) (g := g) (fun x hx => h x (by simp [hx]))
    simp only [List.map_cons, List.sum_cons, List.length_cons]
    omega
theorem take_succ' {α : Type} {L : List α} {j : Nat} (h : j < L.length) : L.take (j + 1) = L.take j ++ [L[j]] := by
  rw [List.take_succ_eq_append_getElem h]
theorem Bnd.ins {L : List Ent} (h : Bnd L) (j a : Nat) (dw v : Int) : -12 * (L.length : Int) ≤ Go.Proofs.Qxb6500897a.ins (L.take j) a dw v ∧ Go.Proofs.Qxb6500897a.ins (L.take j) a dw v ≤ 12 * (L.length : Int) := by
  have := sum_bd (g := insT a dw v) (L := L.take j) (fun e he => insT_bd (h e (List.mem_of_mem_take he)).2.2)
  have hl : (L.take j).length ≤ L.length := by simp; omega
  unfold Go.Proofs.Qxb6500897a.ins
  omega
theorem Bnd.ent {L : List Ent} (h : Bnd L) (j a c : Nat) (v : Int) : -12 * (L.length : Int) ≤ Go.Proofs.Qxb6500897a.ent (L.take j) a v c ∧ Go.Proofs.Qxb6500897a.ent (L.take j) a v c ≤ 12 * (L.length : Int) := by
  have := sum_bd (g := entT a v c) (L := L.take j) (fun e he => entT_bd (h e (List.mem_of_mem_take he)).2.2)
  have hl : (L.take j).length ≤ L.length := by simp; omega
  unfold Go.Proofs.Qxb6500897a.ent
  omega

/-! ### frames -/
theorem Tabs.kpS {S : Nat → Prop} {w w' : World} {d tb : Nat} {H M now : Int} {ts : List Tab} (h : Tabs w d tb H M now ts) (hk : Kp S w w') (hS : ∀ k, S k → k ≠ d ∧ k ≠ tb ∧ k ∉ blks ts) : Tabs w' d tb H M now ts :=
  ⟨hk.row h.top fun s => (hS _ s).1 rfl, hk.row h.arr fun s => (hS _ s).2.1 rfl, fun t ht => hk.row (h.occ t ht) fun s => (hS _ s).2.2 (mem_blks.2 ⟨t, ht, .inl rfl⟩), fun t ht => hk.row (h.adm t ht) fun s => (hS _ s).2.2 (mem_blks.2 ⟨t, ht, .inr rfl⟩), h.nd⟩

theorem St.kpS {S : Nat → Prop} {W w w' : World} {d tb : Nat} {now : Int} {ts : List Tab} {L : List Ent} (h : St W w d tb now ts L) (hk : Kp S w w') (hS : ∀ k, S k → W.heap.size ≤ k ∧ k ≠ d ∧ k ≠ tb ∧ k ∉ blks ts) : St W w' d tb now ts L :=
  ⟨h.tabs.kpS hk fun k s => (hS k s).2, h.good, h.hd, h.hb, h.bel.trans (hk.below h.bel.size fun k hk s => by have := (hS k s).1; omega)⟩

/-- a block of another kind of cell is none of the tables' -/
theorem Tabs.not {w : World} {d tb : Nat} {H M now : Int} {ts : List Tab} (h : Tabs w d tb H M now ts) {b : Nat} {t : TypeId} {l : List Value} (hr : Row w b t l) (h1 : t ≠ 98) (h2 : t ≠ 102) (h3 : t ≠ 3) : b ≠ d ∧ b ≠ tb ∧ b ∉ blks ts := by
  refine ⟨row_ne hr h.top h1, row_ne hr h.arr h2, fun hm => ?_⟩
  obtain ⟨t', ht, e | e⟩ := mem_blks.1 hm
  · exact row_ne hr (h.occ t' ht) h3 e
  · exact row_ne hr (h.adm t' ht) h3 e

theorem Tabs.notP {w w' : World} {d tb : Nat} {H M now : Int} {ts : List Tab} (h : Tabs w d tb H M now ts) {b : Nat} {t : TypeId} {l : List Value} (hr : Row w b t l) (h1 : t ≠ 98) (h2 : t ≠ 102) (h3 : t ≠ 3)
    (hk : Kp (fun k => k = d ∨ k ∈ blks ts) w w') : Row w' b t l := by
  have := h.not hr h1 h2 h3
  exact hk.row hr fun e => by rcases e with e | e; exact this.1 e; exact this.2.2 e

/-! ### what a refused step does -/
theorem Good.refused {now : Int} {ts : List Tab} {L : List Ent} (h : Good now ts L) (o : Op) (hc : (stepP now ts o).code ≠ 0) : stepL now L o = L := by
  unfold stepP at hc
  unfold stepL
  by_cases k0 : o.kind = 0
  · rw [if_pos k0] at hc
    rw [if_pos k0]
    replace hc : Go.Proofs.Qxb6500897a.fitsC now ts o.attr o.slot o.cls o.n ≠ 0 := hc
    rw [h.fitsC] at hc
    rw [if_neg hc]
  · rw [if_neg k0] at hc
    rw [if_neg k0]
    by_cases k1 : o.kind = 1
    · rw [if_pos k1] at hc
      rw [if_pos k1]
      replace hc : Go.Proofs.Qxb6500897a.relC now ts o.attr o.slot o.cls o.n ≠ 0 := hc
      rw [h.relC] at hc
      rw [if_neg hc]
    · rw [if_neg k1]
end Go.Proofs.Qxb6500897a
