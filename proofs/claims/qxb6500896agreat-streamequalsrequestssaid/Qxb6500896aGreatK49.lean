import Derived.Test.Qxb6500896aGreatK48
namespace Go.Proofs.Qxb6500896aGreat
open Go.Sh Go.RowKit
set_option linter.unusedVariables false
set_option linter.unusedSimpArgs false

section
variable {F M M' S : Nat → Prop} {w w' w0 w1 : World} {v rv lv : Value} {l : List Value} {n wb e t : Nat} {rob : Option Nat} {lobs : List (Option Nat)} {C : Cfg} {ls : List (List Int)} {rs : List Rec} {K : Value → World → Prop} {im : Img}
/-- a table over records that were read anew -/
theorem loadT_ok (hc : Cg (Im M w) w l C) (hM : ∀ b, M b → b < w.heap.size) (hr : Rs M w rob rv rs) (hrl : rs.length ≤ 16777216) (hrs : scal rv = true) (hK : ∀ w' M' t, Ext M M' w w' → Kp Emp w w' → w.heap.size ≤ t → Tb M' w' t rob C rs → K (P t 0) w') : cl Tryz.prog 173 #[.agg l.toArray, rv] K w := by
  have hcl := hc.len
  have hc0 := hc
  obtain ⟨va, vt, rfl, ha, _⟩ := hc.ex
  apply c173
  unfold s173_p1
  refine nw_r fun w1 r1 hk1 hz1 => ?_
  replace r1 : Row w1 w.heap.size 34 (C.cells va vt) := r1
  refine ldn_r r1 (show 0 + 14 ≤ 14 by decide) ?_
  have hf : fillL [nilS, nilS, I 0, I 0, I 0, I 0, I 0, I 0, I 0, I 0, I 0, I 0, I 0, I 0, nilS] [(some (0, 14), .agg (((C.cells va vt).drop 0).take 14).toArray), (some (14, 1), rv)] = some (C.cells va vt ++ [rv]) := by
    rw [show ((C.cells va vt).drop 0).take 14 = C.cells va vt from rfl, fill14 hcl (by simp)]
    have e1 : rv.cells.toList = [rv] := by rw [scal_cells hrs]
    simp only [fillL, e1]
    rfl
  refine bdq_r hf ?_
  refine nw_r fun w2 r2 hk2 hz2 => ?_
  have k2 := hk1.trans hk2
  have hx : Ext M (fun b => M b ∨ b = w1.heap.size) w w2 := Ext.add hM k2 (by omega) (by omega)
  exact hK w2 _ w1.heap.size hx k2 (by omega) ⟨⟨C.cells va vt, rv, r2, hc0.ext hx k2 (fun _ q => q.elim), hr.ext hx k2 (fun _ q => q.elim) (fun _ _ q => q)⟩, .inr rfl, hx.lt, hrl⟩
/-- lines that were read anew -/
theorem loadL_ok {lms : List Lm} (hc : Cg (Im M w) w l C) (hM : ∀ b, M b → b < w.heap.size) (mw : M wb) (h1 : lms.map Lm.ids = ls) (h3 : Row w wb 79 (lms.map Lm.val)) (h4 : ∀ p ∈ lms, Sl iC 1 w 3 p.blk p.val p.ids ∧ ∀ b, p.blk = some b → M b) (h5 : lms.Pairwise (fun p q => ∀ b, p.blk = some b → q.blk ≠ some b))
    (hlen : ls.length ≤ 1024) (heach : ∀ l ∈ ls, l.length ≤ 16777216)
    (hK : ∀ w' M' n, Ext M M' w w' → Kp Emp w w' → w.heap.size ≤ n → Li M' w' n wb (lms.map Lm.blk) C ls → K (P n 0) w') : cl Tryz.prog 174 #[.agg l.toArray, .slice (some ⟨wb, 0, none⟩) ls.length ls.length] K w := by
  have hcl := hc.len
  have hc0 := hc
  obtain ⟨va, vt, rfl, ha, _⟩ := hc.ex
  apply c174
  unfold s174_p1
  refine nw_r fun w1 r1 hk1 hz1 => ?_
  replace r1 : Row w1 w.heap.size 34 (C.cells va vt) := r1
  refine ldn_r r1 (show 0 + 14 ≤ 14 by decide) ?_
  refine bdq_r (l := C.cells va vt ++ [.slice (some ⟨wb, 0, none⟩) ls.length ls.length]) rfl ?_
  refine nw_r fun w2 r2 hk2 hz2 => ?_
  have k2 := hk1.trans hk2
  have hx : Ext M (fun b => M b ∨ b = w1.heap.size) w w2 := Ext.add hM k2 (by omega) (by omega)
  exact hK w2 _ w1.heap.size hx k2 (by omega) ⟨⟨C.cells va vt, lms, r2, hc0.ext hx k2 (fun _ q => q.elim), h1, rfl, k2.row' h3, fun p hp => ⟨(h4 p hp).1.kp' k2, fun b e => .inl ((h4 p hp).2 b e)⟩, h5⟩, .inr rfl, .inl mw, hx.lt, hlen, heach⟩
end
end Go.Proofs.Qxb6500896aGreat
