/-
  maps with integer keys: make, look up a key that is not there, add a key that is not there.
-/
import Derived.Test.Qxb6500896aGreatDoorShMem
import Derived.MapKept
namespace Go.Sh
open Go.RowKit
set_option linter.unusedVariables false
set_option linter.unusedSimpArgs false

/-- block b holds a map with just these keys -/
def MapAt (w : World) (b : Nat) (q : IntKind) (ns : List Int) : Prop := ∃ (es : Array MapEntry) (clk : Nat), w.heap[b]? = some (.map es clk) ∧ es.toList.map (·.key) = ns.map (Value.int q)

theorem MapAt.kp {S : Nat → Prop} {w w' : World} {b : Nat} {q : IntKind} {ns : List Int} (h : MapAt w b q ns) (hk : Kp S w w') (hb : ¬ S b) : MapAt w' b q ns := by
  obtain ⟨es, clk, h1, h2⟩ := h
  have hlt : b < w.heap.size := by
    rcases Nat.lt_or_ge b w.heap.size with q | q
    · exact q
    · rw [Array.getElem?_eq_none q] at h1; cases h1
  exact ⟨es, clk, by rw [hk.block b hlt hb]; exact h1, h2⟩
theorem MapAt.not_row {w : World} {b b' : Nat} {q : IntKind} {ns : List Int} {t : TypeId} {l : List Value} (h : MapAt w b q ns) (hr : Row w b' t l) : b' ≠ b := by
  obtain ⟨es, clk, h1, h2⟩ := h
  intro e
  subst e
  unfold Row at hr
  rw [hr] at h1
  cases h1

theorem findNow_none {q : IntKind} {x : Int} : ∀ (es : List MapEntry) (ns : List Int) (i : Nat), es.map (·.key) = ns.map (Value.int q) → x ∉ ns → Instr.findNow (.int q) (.int q x) es i = some none
  | [], _, _, _, _ => rfl
  | e :: es, [], _, h, _ => by simp at h
  | e :: es, n :: ns, i, h, hx => by
    simp only [List.map_cons, List.cons.injEq] at h
    have hn : x ≠ n := fun e => hx (by simp [e])
    have hx' : x ∉ ns := fun e => hx (by simp [e])
    have e1 : (x == n) = false := by simpa using hn
    unfold Instr.findNow
    rw [h.1]
    simp only [Instr.sameNow, if_true, e1]
    exact findNow_none es ns (i + 1) h.2 hx'

theorem mk_map {P : Program} {t : TypeId} {q : IntKind} {K : Value → World → Prop} {w : World} (hK : ∀ w1, MapAt w1 w.heap.size q [] → Kp (fun _ => False) w w1 → w1.heap.size = w.heap.size + 1 → K (.map (some w.heap.size)) w1) : rs P (Instr.makeMap t none) K w := by
  refine rs_ok (v := .map (some w.heap.size)) (w' := w.alloc (.map #[] 0)) (by simp [Instr.makeMap]) ?_
  refine hK _ ⟨#[], 0, by unfold World.alloc; rw [Array.getElem?_push_size], rfl⟩ (kp_alloc _) (by simp)

theorem lk_map {P : Program} {t kt et : TypeId} {q : IntKind} {b : Nat} {ns : List Int} {x : Int} {z : Value} {K : Value → World → Prop} {w : World} (hm : P.underlying t = some (.map kt et)) (hk : P.underlying kt = some (.int q))
    (hz : (zeroValue et).run P w = .ok z w) (h : MapAt w b q ns) (hx : x ∉ ns) (hK : K z w) : rs P (Instr.lookup t (.map (some b)) (.int q x) false) K w := by
  obtain ⟨es, clk, h1, h2⟩ := h
  have hf := findNow_none (q := q) (x := x) es.toList ns 0 h2 hx
  refine rs_ok (v := z) (w' := w) ?_ hK
  have hc : (Instr.checkKey es.isEmpty 10000 kt (.int q x)).run P w = .ok () w := MapKept.run_checkKey (k := .int q x) hk (by simp [MapKept.IsKey]) es.isEmpty 9999
  simp [Instr.lookup, run_underlying hm, MapKept.run_getObj_map h1, hc, MapKept.run_findKey hk hf, hz, Result.andThen]

theorem up_map {P : Program} {t kt et : TypeId} {q : IntKind} {b : Nat} {ns : List Int} {x : Int} {v : Value} {K : World → Prop} {w : World} (hm : P.underlying t = some (.map kt et)) (hk : P.underlying kt = some (.int q))
    (h : MapAt w b q ns) (hx : x ∉ ns) (hK : ∀ w1, MapAt w1 b q (ns ++ [x]) → Kp (fun k => k = b) w w1 → w1.heap.size = w.heap.size → K w1) : ru P (Instr.mapUpdate t (.map (some b)) (.int q x) v) K w := by
  obtain ⟨es, clk, h1, h2⟩ := h
  have hf := findNow_none (q := q) (x := x) es.toList ns 0 h2 hx
  have hlt : b < w.heap.size := by
    rcases Nat.lt_or_ge b w.heap.size with q | q
    · exact q
    · rw [Array.getElem?_eq_none q] at h1; cases h1
  refine ru_ok (v := ()) (w' := { w with heap := w.heap.setIfInBounds b (.map (es.push { key := .int q x, val := v, born := clk }) (clk + 1)) }) ?_ (hK _ ?_ ?_ (by simp))
  · have hc : (Instr.checkKey false 10000 kt (.int q x)).run P w = .ok () w := MapKept.run_checkKey (k := .int q x) hk (by simp [MapKept.IsKey]) false 9999
    simp [Instr.mapUpdate, run_underlying hm, MapKept.run_getObj_map h1, hc, MapKept.run_findKey hk hf, MapKept.run_setObj_map _ h1, Result.andThen]
  · refine ⟨es.push { key := .int q x, val := v, born := clk }, clk + 1, by simp [hlt], ?_⟩
    simp [h2]
  · refine ⟨rfl, rfl, rfl, by simp, fun k hk hn => ?_⟩
    simp only
    rw [Array.getElem?_setIfInBounds_ne (by intro e; exact hn e.symm)]
end Go.Sh
