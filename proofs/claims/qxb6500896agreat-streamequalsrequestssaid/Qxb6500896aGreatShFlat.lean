/-
  Qxb6500896aGreatShFlat: own work. Arguments that are slices of structs of integers.
-/
import Derived.Test.Qxb6500896aGreatShTV
namespace Go.Sh
open Go.RowKit
set_option linter.unusedVariables false
set_option linter.unusedSimpArgs false

/-- the fields of a struct are integers, one cell each, laid one after the other -/
def flatFs (P : Program) : List Field → Nat → List IntKind → Bool
  | [], _, [] => true
  | f :: fs, o, k :: ks => Nat.beq f.offset o && Nat.beq (P.cellsOf f.type) 1 && (match P.underlying f.type with | some (.int k') => decide (k' = k) | _ => false) && flatFs P fs (o + 1) ks
  | _, _, _ => false
def flatKs (P : Program) (t : TypeId) (ks : List IntKind) : Bool :=
  match P.underlying t with
  | some (.struct fs) => flatFs P fs.toList 0 ks && Nat.beq (P.cellsOf t) ks.length
  | _ => false

def ints : List IntKind → List Int → List Value
  | k :: ks, n :: ns => .int k n :: ints ks ns
  | _, _ => []
def wfs : List IntKind → List Int → Prop
  | k :: ks, n :: ns => (Lit.int k n).wf = true ∧ wfs ks ns
  | _, _ => True

theorem flatFs_ok {P : Program} {W : World} {g : Nat} {cs : List Value} : ∀ (fs : List Field) (o : Nat) (ks : List IntKind), flatFs P fs o ks = true →
    (∀ fl ∈ fs, TV P W g fl.type ((cs.drop fl.offset).take (P.cellsOf fl.type))) → cs.length = o + ks.length → ∃ ns : List Int, ns.length = ks.length ∧ cs.drop o = ints ks ns ∧ wfs ks ns
  | [], o, [], _, _, hl => ⟨[], rfl, by rw [List.drop_eq_nil_iff.2 (by simp at hl; omega)]; rfl, trivial⟩
  | [], o, k :: ks, h, _, _ => by simp [flatFs] at h
  | f :: fs, o, [], h, _, _ => by simp [flatFs] at h
  | f :: fs, o, k :: ks, h, hf, hl => by
    simp only [flatFs, Bool.and_eq_true] at h
    obtain ⟨⟨⟨h1, h2⟩, h3⟩, h4⟩ := h
    have e1 : f.offset = o := Nat.eq_of_beq_eq_true h1
    have e2 : P.cellsOf f.type = 1 := Nat.eq_of_beq_eq_true h2
    have ht := hf f (List.mem_cons_self ..)
    rw [e1, e2] at ht
    simp only [List.length_cons] at hl
    obtain ⟨ns, hn, hd, hw⟩ := flatFs_ok fs (o + 1) ks h4 (fun fl hfl => hf fl (List.mem_cons_of_mem _ hfl)) (by omega)
    cases hu : P.underlying f.type with
    | none => rw [hu] at h3; cases h3
    | some d =>
      rw [hu] at h3
      cases d <;> simp at h3
      rename_i k'
      subst h3
      obtain ⟨n, en, hnw⟩ := tv_int hu ht
      refine ⟨n :: ns, by simp [hn], ?_, hnw, hw⟩
      have hlt : o < cs.length := by omega
      rw [← List.getElem_cons_drop hlt, hd]
      have : cs[o] = .int k' n := by
        have h5 : (cs.drop o).take 1 = [cs[o]] := by
          rw [← List.getElem_cons_drop hlt, List.take_succ_cons, List.take_zero]
        rw [h5] at en
        exact (List.cons.inj en).1
      rw [this]; rfl

theorem tv_flat {P : Program} {W : World} {f : Nat} {t : TypeId} {cs : List Value} {ks : List IntKind} (hk : flatKs P t ks = true) (h : TV P W f t cs) : ∃ ns : List Int, ns.length = ks.length ∧ cs = ints ks ns ∧ wfs ks ns := by
  unfold flatKs at hk
  split at hk
  · rename_i fs hu
    simp only [Bool.and_eq_true] at hk
    have e : P.cellsOf t = ks.length := Nat.eq_of_beq_eq_true hk.2
    obtain ⟨g, _, hl, hf⟩ := tv_struct hu h
    have := flatFs_ok fs.toList 0 ks hk.1 hf (by omega)
    simpa using this
  · cases hk

theorem choose_list {α : Type} (n : Nat) (p : Nat → α → Prop) (h : ∀ i, i < n → ∃ x, p i x) : ∃ l : List α, l.length = n ∧ ∀ i (hi : i < l.length), p i l[i] := by
  induction n with
  | zero => exact ⟨[], rfl, fun i hi => by simp at hi⟩
  | succ n ih =>
    obtain ⟨l, hl, hp⟩ := ih (fun i hi => h i (by omega))
    obtain ⟨x, hx⟩ := h n (by omega)
    refine ⟨l ++ [x], by simp [hl], fun i hi => ?_⟩
    by_cases hin : i < l.length
    · rw [List.getElem_append_left hin]; exact hp i hin
    · have : i = n := by simp at hi; omega
      subst this
      rw [List.getElem_append_right (by omega)]
      simpa using hx
end Go.Sh
