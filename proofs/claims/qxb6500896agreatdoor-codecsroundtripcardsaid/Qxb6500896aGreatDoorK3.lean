import Derived.Test.Qxb6500896aGreatDoorK2
namespace Go.Proofs.Qxb6500896aGreatDoor
open Go.Sh Go.RowKit
set_option linter.unusedVariables false
set_option linter.unusedSimpArgs false

def parkA : List Att := [⟨8, 1, 8, 4, 6⟩, ⟨10, 3, 10, 5, 6⟩, ⟨6, 2, 6, 6, 3⟩]
def parkT : List (List Int) := [[0, 1, 2], [1, 0, 1], [3, 1, 0]]
def park : Cfg := ⟨parkA, parkT, 8, 36, 5, 3, 3, 2, 2, 4, 26, 4, 5, 6⟩
structure Cok (C : Cfg) : Prop where
  a : C.ats.length ≤ 1024
  t : C.tr.length ≤ 1024
  r : ∀ r ∈ C.tr, r.length ≤ 1024
theorem park_cok : Cok park := ⟨by decide, by decide, by decide⟩
section
variable {F G S : Nat → Prop} {w w' : World} {v : Value} {l : List Value} {C : Cfg} {xss : List (List Int)} {xs : List Int} {K : Value → World → Prop}
theorem rows_one (xs : List Value) : rows one xs = xs := by
  induction xs with
  | nil => rfl
  | cons x xs ih => rw [rows_cons, ih]; rfl
theorem rows_iC (xs : List Int) : rows iC xs = xs.map I := by
  induction xs with
  | nil => rfl
  | cons x xs ih => rw [rows_cons, ih]; rfl
theorem rows_bC (xs : List Int) : rows bC xs = xs.map U8 := by
  induction xs with
  | nil => rfl
  | cons x xs ih => rw [rows_cons, ih]; rfl
set_option maxHeartbeats 4000000 in
/-- the configuration of the theorems, its two slices chosen -/
theorem park_raw (hK : ∀ w' ab tb r0 r1 r2, Kp Emp w w' → Nb w w' ab → Nb w w' tb → Nb w w' r0 → Nb w w' r1 → Nb w w' r2 → Row w' ab 129 (rows Att.cells parkA) → Row w' r0 3 [I 0, I 1, I 2] → Row w' r1 3 [I 1, I 0, I 1] → Row w' r2 3 [I 3, I 1, I 0] →
    Row w' tb 43 [.slice (some ⟨r0, 0, none⟩) 3 3, .slice (some ⟨r1, 0, none⟩) 3 3, .slice (some ⟨r2, 0, none⟩) 3 3] → K (.agg (park.cells (.slice (some ⟨ab, 0, none⟩) 3 3) (.slice (some ⟨tb, 0, none⟩) 3 3)).toArray) w') : cl Tryz.prog 22 #[] K w := by
  apply c22
  unfold s22_p1
  refine nw_r fun w1 r1 hk1 hz1 => ?_
  refine bdq_r (l := [I 8, I 4, I 6]) rfl ?_
  refine bdq_r (l := [I 8, I 1, I 8, I 4, I 6]) rfl ?_
  refine bdq_r (l := [I 10, I 5, I 6]) rfl ?_
  refine bdq_r (l := [I 10, I 3, I 10, I 5, I 6]) rfl ?_
  refine bdq_r (l := [I 6, I 6, I 3]) rfl ?_
  refine bdq_r (l := [I 6, I 2, I 6, I 6, I 3]) rfl ?_
  refine bsq_r (l := rows Att.cells parkA) rfl fun w2 r2 hk2 hz2 => ?_
  refine bsq_r (l := [I 0, I 1, I 2]) rfl fun w3 r3 hk3 hz3 => ?_
  refine bsq_r (l := [I 1, I 0, I 1]) rfl fun w4 r4 hk4 hz4 => ?_
  refine bsq_r (l := [I 3, I 1, I 0]) rfl fun w5 r5 hk5 hz5 => ?_
  refine bsq_r (l := [.slice (some ⟨w2.heap.size, 0, none⟩) 3 3, .slice (some ⟨w3.heap.size, 0, none⟩) 3 3, .slice (some ⟨w4.heap.size, 0, none⟩) 3 3]) rfl fun w6 r6 hk6 hz6 => ?_
  refine bdq_r (l := park.cells (.slice (some ⟨w1.heap.size, 0, none⟩) 3 3) (.slice (some ⟨w5.heap.size, 0, none⟩) 3 3)) rfl ?_
  have k16 : Kp Emp w1 w6 := (((hk2.trans hk3).trans hk4).trans hk5).trans hk6
  refine stn_r (cs := park.cells (.slice (some ⟨w1.heap.size, 0, none⟩) 3 3) (.slice (some ⟨w5.heap.size, 0, none⟩) 3 3)) (k16.row' r1) rfl (show 0 + 14 ≤ 14 by decide) rfl fun w7 r7 hk7 hz7 => ?_
  replace r7 : Row w7 w.heap.size 75 (park.cells (.slice (some ⟨w1.heap.size, 0, none⟩) 3 3) (.slice (some ⟨w5.heap.size, 0, none⟩) 3 3)) := r7
  refine ldn_r r7 (show 0 + 14 ≤ 14 by decide) ?_
  have k7 : Kp Emp w w7 := (hk1.trans k16).then hk7 fun k hk (q : k = _) => by omega
  refine hK w7 w1.heap.size w5.heap.size w2.heap.size w3.heap.size w4.heap.size k7 ⟨by omega, by omega⟩ ⟨by omega, by omega⟩ ⟨by omega, by omega⟩ ⟨by omega, by omega⟩ ⟨by omega, by omega⟩ ?_ ?_ ?_ ?_ ?_
  · exact hk7.row ((((hk3.trans hk4).trans hk5).trans hk6).row' r2) (by omega)
  · exact hk7.row (((hk4.trans hk5).trans hk6).row' r3) (by omega)
  · exact hk7.row ((hk5.trans hk6).row' r4) (by omega)
  · exact hk7.row (hk6.row' r5) (by omega)
  · exact hk7.row r6 (by omega)
theorem park_rws {tb r0 r1 r2 : Nat} (h0 : Row w r0 3 [I 0, I 1, I 2]) (h1 : Row w r1 3 [I 1, I 0, I 1]) (h2 : Row w r2 3 [I 3, I 1, I 0]) (ht : Row w tb 43 [.slice (some ⟨r0, 0, none⟩) 3 3, .slice (some ⟨r1, 0, none⟩) 3 3, .slice (some ⟨r2, 0, none⟩) 3 3])
    (f0 : F r0) (f1 : F r1) (f2 : F r2) (ft : F tb) : Rws F w (.slice (some ⟨tb, 0, none⟩) 3 3) parkT := by
  refine ⟨[.slice (some ⟨r0, 0, none⟩) 3 3, .slice (some ⟨r1, 0, none⟩) 3 3, .slice (some ⟨r2, 0, none⟩) 3 3], Ar.row (xs := [.slice (some ⟨r0, 0, none⟩) 3 3, .slice (some ⟨r1, 0, none⟩) 3 3, .slice (some ⟨r2, 0, none⟩) 3 3]) one_len ht ft (by simp), rfl, fun i hi hi2 => ?_⟩
  match i, hi with
  | 0, _ => exact Ar.row (xs := [0, 1, 2]) iC_len h0 f0 (by simp)
  | 1, _ => exact Ar.row (xs := [1, 0, 1]) iC_len h1 f1 (by simp)
  | 2, _ => exact Ar.row (xs := [3, 1, 0]) iC_len h2 f2 (by simp)
theorem park_ok (hK : ∀ w' l, Kp Emp w w' → Cg (Nb w w') w' l park → K (.agg l.toArray) w') : cl Tryz.prog 22 #[] K w := by
  refine park_raw fun w' ab tb r0 r1 r2 hk na nt n0 n1 n2 ra h0 h1 h2 ht => ?_
  exact hK w' _ hk ⟨_, _, rfl, Ar.row (xs := parkA) Att.len ra na (by decide), park_rws h0 h1 h2 ht n0 n1 n2 nt⟩
end
end Go.Proofs.Qxb6500896aGreatDoor
