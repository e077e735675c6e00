/-
  sets as maps: integer keys, every value true.
-/
import Derived.Test.Qxb6500899aFmtShMap
namespace Go.Sh
open Go.RowKit
set_option linter.unusedVariables false
set_option linter.unusedSimpArgs false

/-- block b holds a map with just these keys, each with the value true -/
def MapT (w : World) (b : Nat) (q : IntKind) (ns : List Int) : Prop := ∃ (es : Array MapEntry) (clk : Nat), w.heap[b]? = some (.map es clk) ∧ es.toList.map (fun e => (e.key, e.val)) = ns.map (fun n => (Value.int q n, Value.bool true))

section
variable {w w' : World} {b : Nat} {q : IntKind} {ns : List Int} {x : Int} {P : Program} {t kt et : TypeId} {K : Value → World → Prop}
theorem MapT.lt (h : MapT w b q ns) : b < w.heap.size := by
  obtain ⟨es, clk, h1, h2⟩ := h
  rcases Nat.lt_or_ge b w.heap.size with q | q
  · exact q
  · rw [Array.getElem?_eq_none q] at h1; cases h1
theorem MapT.kp {S : Nat → Prop} (h : MapT w b q ns) (hk : Kp S w w') (hb : ¬ S b) : MapT w' b q ns := by
  have hlt := h.lt
  obtain ⟨es, clk, h1, h2⟩ := h
  exact ⟨es, clk, by rw [hk.block b hlt hb]; exact h1, h2⟩
theorem MapT.at (h : MapT w b q ns) : MapAt w b q ns := by
  obtain ⟨es, clk, h1, h2⟩ := h
  refine ⟨es, clk, h1, ?_⟩
  have := congrArg (List.map Prod.fst) h2
  simpa [List.map_map, Function.comp_def] using this
theorem MapT.not_row {b' : Nat} {l : List Value} (h : MapT w b q ns) (hr : Row w b' t l) : b' ≠ b := h.at.not_row hr
theorem findT_some : ∀ (es : List MapEntry) (ns : List Int) (i : Nat), es.map (fun e => (e.key, e.val)) = ns.map (fun n => (Value.int q n, Value.bool true)) → x ∈ ns → Instr.findNow (.int q) (.int q x) es i = some (some (i + ns.idxOf x, .bool true))
  | [], [], _, _, hx => by cases hx
  | [], n :: ns, _, h, _ => by simp at h
  | e :: es, [], _, h, _ => by simp at h
  | e :: es, n :: ns, i, h, hx => by
    simp only [List.map_cons, List.cons.injEq, Prod.mk.injEq] at h
    obtain ⟨⟨h1, h2⟩, h3⟩ := h
    unfold Instr.findNow
    rw [h1]
    by_cases hn : x = n
    · subst hn
      simp [Instr.sameNow, h2]
    · have e1 : (x == n) = false := by simpa using hn
      have hx' : x ∈ ns := by
        rcases List.mem_cons.1 hx with q | q
        · exact absurd q hn
        · exact q
      simp only [Instr.sameNow, if_true, e1]
      rw [findT_some es ns (i + 1) h3 hx']
      have : (n :: ns).idxOf x = ns.idxOf x + 1 := by
        rw [List.idxOf_cons]
        have : (n == x) = false := by simpa using fun e => hn e.symm
        rw [this]; rfl
      rw [this]
      congr 3
      omega
theorem map_eraseIdx {α β : Type} (f : α → β) : ∀ (l : List α) (i : Nat), (l.eraseIdx i).map f = (l.map f).eraseIdx i
  | [], _ => rfl
  | _ :: _, 0 => rfl
  | x :: l, i + 1 => by simp [List.eraseIdx_cons_succ, map_eraseIdx f l i]
theorem erase_idxOf {x : Int} : ∀ (l : List Int), l.eraseIdx (l.idxOf x) = l.erase x
  | [] => rfl
  | y :: l => by
    rw [List.idxOf_cons, List.erase_cons]
    by_cases h : y == x
    · rw [h]; rfl
    · rw [Bool.not_eq_true] at h
      rw [h]
      show y :: l.eraseIdx (l.idxOf x) = y :: l.erase x
      rw [erase_idxOf l]
theorem mk_mapT (hK : ∀ w1, MapT w1 w.heap.size q [] → Kp (fun _ => False) w w1 → w1.heap.size = w.heap.size + 1 → K (.map (some w.heap.size)) w1) : rs P (Instr.makeMap t none) K w := by
  refine rs_ok (v := .map (some w.heap.size)) (w' := w.alloc (.map #[] 0)) (by simp [Instr.makeMap]) ?_
  refine hK _ ⟨#[], 0, by unfold World.alloc; rw [Array.getElem?_push_size], rfl⟩ (kp_alloc _) (by simp)
theorem lk_mapT (hm : P.underlying t = some (.map kt et)) (hk : P.underlying kt = some (.int q)) (hz : (zeroValue et).run P w = .ok (.bool false) w) (h : MapT w b q ns) (hK : K (.bool (decide (x ∈ ns))) w) :
    rs P (Instr.lookup t (.map (some b)) (.int q x) false) K w := by
  by_cases hx : x ∈ ns
  · rw [decide_eq_true hx] at hK
    obtain ⟨es, clk, h1, h2⟩ := h
    have hf := findT_some (q := q) (x := x) es.toList ns 0 h2 hx
    refine rs_ok (v := .bool true) (w' := w) ?_ hK
    have hc : (Instr.checkKey es.isEmpty 10000 kt (.int q x)).run P w = .ok () w := MapKept.run_checkKey (k := .int q x) hk (by simp [MapKept.IsKey]) es.isEmpty 9999
    simp [Instr.lookup, run_underlying hm, MapKept.run_getObj_map h1, hc, MapKept.run_findKey hk hf, Result.andThen]
  · rw [decide_eq_false hx] at hK
    exact lk_map hm hk hz h.at hx hK
theorem up_mapT {K : World → Prop} (hm : P.underlying t = some (.map kt et)) (hk : P.underlying kt = some (.int q)) (h : MapT w b q ns) (hx : x ∉ ns) (hK : ∀ w1, MapT w1 b q (ns ++ [x]) → Kp (fun k => k = b) w w1 → w1.heap.size = w.heap.size → K w1) : ru P (Instr.mapUpdate t (.map (some b)) (.int q x) (.bool true)) K w := by
  have hlt := h.lt
  have hat := h.at
  obtain ⟨es, clk, h1, h2⟩ := h
  have hat2 : es.toList.map (·.key) = ns.map (Value.int q) := by
    have := congrArg (List.map Prod.fst) h2
    simpa [List.map_map, Function.comp_def] using this
  have hf := findNow_none (q := q) (x := x) es.toList ns 0 hat2 hx
  refine ru_ok (v := ()) (w' := { w with heap := w.heap.setIfInBounds b (.map (es.push { key := .int q x, val := .bool true, born := clk }) (clk + 1)) }) ?_ (hK _ ?_ ?_ (by simp))
  · have hc : (Instr.checkKey false 10000 kt (.int q x)).run P w = .ok () w := MapKept.run_checkKey (k := .int q x) hk (by simp [MapKept.IsKey]) false 9999
    simp [Instr.mapUpdate, run_underlying hm, MapKept.run_getObj_map h1, hc, MapKept.run_findKey hk hf, MapKept.run_setObj_map _ h1, Result.andThen]
  · refine ⟨es.push { key := .int q x, val := .bool true, born := clk }, clk + 1, by simp [hlt], ?_⟩
    simp [h2]
  · refine ⟨rfl, rfl, rfl, by simp, fun k hk hn => ?_⟩
    simp only
    rw [Array.getElem?_setIfInBounds_ne (by intro e; exact hn e.symm)]
theorem del_mapT {t2 t3 : TypeId} (hm : P.underlying t = some (.map kt et)) (hk : P.underlying kt = some (.int q)) (h : MapT w b q ns) (hx : x ∈ ns) (hK : ∀ w1, MapT w1 b q (ns.erase x) → Kp (fun k => k = b) w w1 → w1.heap.size = w.heap.size → K (.tuple #[]) w1) :
    rs P (Builtin.delete_ #[t, t2] t3 #[.map (some b), .int q x]) K w := by
  have hlt := h.lt
  obtain ⟨es, clk, h1, h2⟩ := h
  have hf := findT_some (q := q) (x := x) es.toList ns 0 h2 hx
  have hlen : es.size = ns.length := by
    have := congrArg List.length h2
    simpa using this
  have hi : ns.idxOf x < es.size := by rw [hlen]; exact List.idxOf_lt_length_of_mem hx
  refine rs_ok (v := .tuple #[]) (w' := { w with heap := w.heap.setIfInBounds b (.map (es.eraseIdxIfInBounds (ns.idxOf x)) clk) }) ?_ (hK _ ?_ ?_ (by simp))
  · have hc : (Instr.checkKey es.isEmpty 10000 kt (.int q x)).run P w = .ok () w := MapKept.run_checkKey (k := .int q x) hk (by simp [MapKept.IsKey]) es.isEmpty 9999
    simp [Builtin.delete_, run_underlying hm, MapKept.run_getObj_map h1, hc, MapKept.run_findKey hk hf, MapKept.run_setObj_map _ h1, Result.andThen]
  · refine ⟨es.eraseIdxIfInBounds (ns.idxOf x), clk, by simp [hlt], ?_⟩
    have e1 : (es.eraseIdxIfInBounds (ns.idxOf x)).toList = es.toList.eraseIdx (ns.idxOf x) := by
      unfold Array.eraseIdxIfInBounds
      rw [dif_pos hi, Array.toList_eraseIdx]
    have e2 : (es.toList.eraseIdx (ns.idxOf x)).map (fun e => (e.key, e.val)) = (es.toList.map (fun e => (e.key, e.val))).eraseIdx (ns.idxOf x) := map_eraseIdx _ _ _
    rw [e1, e2, h2, ← map_eraseIdx, erase_idxOf]
  · refine ⟨rfl, rfl, rfl, by simp, fun k hk hn => ?_⟩
    simp only
    rw [Array.getElem?_setIfInBounds_ne (by intro e; exact hn e.symm)]
theorem len_mapT {t2 : TypeId} (hm : P.underlying t = some (.map kt et)) (h : MapT w b q ns) (hK : K (.int .i64 ns.length) w) : rs P (Builtin.len_ #[t] t2 #[.map (some b)]) K w := by
  obtain ⟨es, clk, h1, h2⟩ := h
  have hlen : es.size = ns.length := by
    have := congrArg List.length h2
    simpa using this
  refine rs_ok (v := .int .i64 ns.length) (w' := w) ?_ hK
  simp [Builtin.len_, run_underlying hm, MapKept.run_getObj_map h1, Result.andThen, goInt, hlen]
theorem MapT.below {B : Nat} (h : MapT w b q ns) (hb : Below B w w') (hlt : b < B) : MapT w' b q ns := by
  obtain ⟨es, clk, h1, h2⟩ := h
  exact ⟨es, clk, by rw [hb.block b hlt]; exact h1, h2⟩
end
end Go.Sh
