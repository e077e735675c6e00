import Derived.Test.Qxb6500894aDoorE1
import Derived.Test.Qxb6500894aDoorShApp2
namespace Go.Proofs.Qxb6500894aDoor
open Go.Sh Go.RowKit
set_option linter.unusedVariables false
set_option linter.unusedSimpArgs false

/-! ### all values inside a value -/
def wl (W : World) : Nat → Vc → List Vc
  | 0, _ => []
  | f + 1, x => x :: (kidsL W x).flatMap (wl W f)

theorem wl_ok {W : World} : ∀ {f : Nat} {x : Vc}, VOk W f x → ∀ y ∈ wl W f x, VOk W f y
  | 0, x, h, y, hy => h.elim
  | f + 1, x, h, y, hy => by
    unfold wl at hy
    rcases List.mem_cons.1 hy with e | e
    · rw [e]; exact h
    · obtain ⟨k, hk, hyk⟩ := List.mem_flatMap.1 e
      exact (wl_ok (h.2.2 k hk) y hyk).mono (by omega)

theorem VOk.scal {W : World} {f : Nat} {x : Vc} (h : VOk W f x) : x.cells.all Go.Sh.scal = true := by
  cases f with
  | zero => exact h.elim
  | succ f =>
    have : Go.Sh.scal x.lst = true := by
      rcases h.2.1 with ⟨e, _⟩ | ⟨a, cap, e, _⟩ <;> rw [e] <;> rfl
    show (true && (true && (true && (true && (true && (true && (true && (Go.Sh.scal x.lst && true)))))))) = true
    rw [this]; rfl

theorem flat_take {α β : Type} {g : α → List β} {l : List α} {j : Nat} (h : j < l.length) : (l.take (j + 1)).flatMap g = (l.take j).flatMap g ++ g l[j] := by
  rw [List.take_succ_eq_append_getElem h, List.flatMap_append]; simp

theorem flat_take_le {α β : Type} {g : α → List β} (l : List α) (j : Nat) : ((l.take j).flatMap g).length ≤ (l.flatMap g).length := by
  have e : l.flatMap g = (l.take j).flatMap g ++ (l.drop j).flatMap g := by rw [← List.flatMap_append, List.take_append_drop]
  rw [e, List.length_append]; omega

/-! ### a record -/
abbrev Pr := ByteArray × Vc
def pcl (p : Pr) : List Value := .string p.1 :: p.2.cells
theorem pcl_length (p : Pr) : (pcl p).length = 9 := rfl
def PAt (W : World) (pv : Value) (ps : List Pr) : Prop :=
  (pv = .slice none 0 0 ∧ ps = []) ∨ ∃ (a : Addr) (cap : Nat), pv = .slice (some a) ps.length cap ∧ ps.length ≤ 140737488351232 ∧ ∀ j (h : j < ps.length), ∃ b o, a.add (j * 9) = ⟨b, o, none⟩ ∧ Cells W b o (pcl ps[j])
section
variable {W w : World} {pv : Value} {ps : List Pr} {K : Value → World → Prop}
theorem PAt.ln (h : PAt W pv ps) (hK : K (I ps.length) w) : lnS pv K w := by
  rcases h with ⟨rfl, rfl⟩ | ⟨a, cap, rfl, _⟩
  · exact hK
  · exact hK
theorem PAt.ix (h : PAt W pv ps) {j : Nat} (hj : j < ps.length) (hK : ∀ b o, Cells W b o (pcl ps[j]) → K (.pointer (some ⟨b, o, none⟩)) w) : ixs 9 pv (I j) K w := by
  rcases h with ⟨rfl, rfl⟩ | ⟨a, cap, rfl, _, h⟩
  · simp at hj
  · refine ⟨⟨by omega, by omega⟩, ?_⟩
    have ej : ((j : Int)).toNat = j := by omega
    obtain ⟨b, o, e, hc⟩ := h j hj
    rw [ej, e]
    exact hK b o hc
theorem PAt.len (h : PAt W pv ps) : ps.length ≤ 140737488351232 := by
  rcases h with ⟨rfl, rfl⟩ | ⟨a, cap, rfl, h, _⟩
  · simp
  · exact h
end

/-- all values of a record -/
def vals (W : World) (F : Nat) (ps : List Pr) : List Vc := ps.flatMap fun p => wl W F p.2

end Go.Proofs.Qxb6500894aDoor
