import Derived.Test.Qxb6500897aP25
namespace Go.Proofs.Qxb6500897a
open Go.Sh Go.RowKit
set_option linter.unusedVariables false
set_option linter.unusedSimpArgs false

theorem getD_replicate (n i : Nat) : (List.replicate n (0 : Int)).getD i 0 = 0 := by
  simp only [List.getD_eq_getElem?_getD, List.getElem?_replicate]
  split <;> rfl

theorem fresh_good {ts : List Tab} (hf : FreshTs 6 parkA ts) : Good 0 ts [] := by
  have hlen : ts.length = 4 := by
    have := congrArg List.length hf.1
    simpa [parkA] using this
  refine ⟨⟨by omega, by omega, by simp, ?_, ?_⟩, hlen, fun a ha => ?_⟩
  · intro a v c hc
    have := (pa_bd a).2.2.2.2 c
    show 0 ≤ (0 : Int) ∧ (0 : Int) ≤ _
    omega
  · intro a v
    have := pa_bd a
    show 0 ≤ (0 : Int) ∧ (0 : Int) ≤ _
    omega
  · have hatt : ts[a].att = pa a := by
      have h1 : (ts.map Tab.att)[a]? = parkA[a]? := by rw [hf.1]
      rw [List.getElem?_map, List.getElem?_eq_getElem ha] at h1
      unfold pa
      rw [List.getD_eq_getElem?_getD, ← h1]; rfl
    have hn := hf.2 ts[a] (List.getElem_mem ha)
    have hb := pa_bd a
    have hdw : (pa a).dwell = dw a := rfl
    have ho : ts[a].occ = List.replicate (ringLen 6 (pa a)) 0 := by rw [hn, hatt]; rfl
    have had : ts[a].adm = List.replicate (3 * ringLen 6 (pa a)) 0 := by rw [hn, hatt]; rfl
    refine ⟨hatt, ?_, ?_, fun v _ _ => ?_, fun v c _ _ _ => ?_⟩
    · rw [ho, List.length_replicate]; unfold ringLen; omega
    · rw [ho, had, List.length_replicate, List.length_replicate]
    · unfold occOf; rw [ho, getD_replicate]; rfl
    · unfold admOf; rw [had, getD_replicate]; rfl
end Go.Proofs.Qxb6500897a
