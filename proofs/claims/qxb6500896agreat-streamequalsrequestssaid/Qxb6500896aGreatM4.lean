import Derived.Test.Qxb6500896aGreatM3
namespace Go.Proofs.Qxb6500896aGreat
open Go.Sh Go.RowKit
set_option linter.unusedVariables false
set_option linter.unusedSimpArgs false

/-! ### a model in memory that is written -/
def lmC (p : Lm) : List Value := [p.val]
theorem lmC_len (p : Lm) : (lmC p).length = 1 := rfl
/-- the blocks that are written -/
def Bm (m : Nat) (rob lob : Option Nat) (ps : List Lm) (b : Nat) : Prop := b = m ∨ rob = some b ∨ lob = some b ∨ ∃ p ∈ ps, p.blk = some b
abbrev mrow (va vt rv lv : Value) (now : Int) : List Value := park.cells va vt ++ [I now, rv, lv]
/-- a model, in its parts -/
structure Mx (O G : Nat → Prop) (w : World) (m : Nat) (now : Int) (va vt rv lv : Value) (rob lob : Option Nat) (its : List (Rec × Value)) (ps : List Lm) : Prop where
  row : Row w m 119 (mrow va vt rv lv now)
  cg : Cg G w (park.cells va vt) park
  rsl : Sl rC 7 w 85 rob rv its
  lsl : Sl lmC 1 w 79 lob lv ps
  line : ∀ p ∈ ps, Sl iC 1 w 3 p.blk p.val p.ids
  pw : ps.Pairwise (fun p q => ∀ b, p.blk = some b → q.blk ≠ some b)
  own : ∀ b, Bm m rob lob ps b → O b
  legs : ∀ p ∈ its, Ar lC 2 (fun b => O b ∧ ¬ Bm m rob lob ps b) w p.2 p.1.legs
  gd : ∀ b, G b → ¬ O b
  lt : ∀ b, O b ∨ G b → b < w.heap.size
/-- a model -/
def Mo (O G : Nat → Prop) (w : World) (m : Nat) (s : Ms) : Prop :=
  ∃ va vt rv lv rob lob its ps, Mx O G w m s.now va vt rv lv rob lob its ps ∧ its.map (·.1) = s.rs ∧ ps.map Lm.ids = s.ls
section
variable {O G O' S : Nat → Prop} {w w' : World} {m : Nat} {now : Int} {va vt rv lv : Value} {rob lob : Option Nat} {its : List (Rec × Value)} {ps : List Lm} {s : Ms} {K : Value → World → Prop}
theorem sl_val {p : Lm} (h : Sl iC 1 w 3 p.blk p.val p.ids) : scal p.val = true := by
  cases hb : p.blk with
  | none => rw [hb] at h; obtain ⟨e, _⟩ := h; rw [e]; rfl
  | some b => rw [hb] at h; obtain ⟨cap, junk, e, _⟩ := h; rw [e]; rfl
theorem Mx.kp (h : Mx O G w m now va vt rv lv rob lob its ps) (hk : Kp S w w') (hS : ∀ b, S b → ¬ O b ∧ ¬ G b) : Mx O G w' m now va vt rv lv rob lob its ps := by
  have o := h.own
  have n : ∀ b, O b → ¬ S b := fun b q r => (hS b r).1 q
  exact ⟨hk.row h.row (n _ (o m (.inl rfl))), h.cg.kp hk fun b q r => (hS b r).2 q, h.rsl.kp hk fun b e => n b (o b (.inr (.inl e))), h.lsl.kp hk fun b e => n b (o b (.inr (.inr (.inl e)))), fun p hp => (h.line p hp).kp hk fun b e => n b (o b (.inr (.inr (.inr ⟨p, hp, e⟩)))), h.pw, h.own, fun p hp => (h.legs p hp).kp hk fun b q => n b q.1, h.gd, fun b q => by have := h.lt b q; have := hk.size; omega⟩
theorem Mx.grow (h : Mx O G w m now va vt rv lv rob lob its ps) (hk : Kp Emp w w') : Mx (fun b => O b ∨ Nb w w' b) G w' m now va vt rv lv rob lob its ps := by
  have h' := h.kp (S := Emp) hk fun b q => q.elim
  refine ⟨h'.row, h'.cg, h'.rsl, h'.lsl, h'.line, h'.pw, fun b q => .inl (h'.own b q), fun p hp => (h'.legs p hp).mono fun b q => ⟨.inl q.1, q.2⟩, fun b q r => ?_, fun b q => ?_⟩
  · rcases r with r | r
    · exact h.gd b q r
    · have := h.lt b (.inr q); have := r.1; omega
  · rcases q with (q | q) | q
    · have := h.lt b (.inl q); have := hk.size; omega
    · exact q.2
    · have := h.lt b (.inr q); have := hk.size; omega
theorem Mx.ro (h : Mx O G w m now va vt rv lv rob lob its ps) (hl : its.length ≤ 1000) : Ro O w rv (its.map (·.1)) :=
  ⟨its, rfl, h.rsl.ar rC_len (by omega) fun b e => h.own b (.inr (.inl e)), fun p hp => (h.legs p hp).mono fun b q => q.1⟩
theorem Mx.lines (h : Mx O G w m now va vt rv lv rob lob its ps) (hl : ps.length ≤ 1000) (hll : ∀ p ∈ ps, p.ids.length ≤ 1000000) : Rws O w lv (ps.map Lm.ids) := by
  have hA : Ar lmC 1 O w lv ps := h.lsl.ar lmC_len (by omega) fun b e => h.own b (.inr (.inr (.inl e)))
  refine ⟨ps.map Lm.val, ?_, by rw [List.length_map, List.length_map], fun i h1 h2 => ?_⟩
  · obtain ⟨a1, a2⟩ := hA
    refine ⟨by rw [List.length_map]; exact a1, ?_⟩
    rcases a2 with ⟨a, cap, e1, e2⟩ | ⟨b, o, cap, e1, e2, e3, e4, e5⟩
    · exact .inl ⟨a, cap, e1, by rw [e2]; rfl⟩
    · refine .inr ⟨b, o, cap, by rw [List.length_map]; exact e1, by rw [List.length_map]; exact e2, e3, by rw [List.length_map]; exact e4, fun i hi => ?_⟩
      rw [List.getElem_map]
      exact e5 i (by rw [List.length_map] at hi; exact hi)
  · rw [List.length_map] at h1
    rw [List.getElem_map, List.getElem_map]
    have hp := List.getElem_mem (l := ps) h1
    exact (h.line _ hp).ar iC_len (by have := hll _ hp; omega) fun b e => h.own b (.inr (.inr (.inr ⟨_, hp, e⟩)))
theorem Mo.mr (h : Mo O G w m s) (hl : s.rs.length ≤ 1000) (h2 : s.ls.length ≤ 1000) (h3 : ∀ l ∈ s.ls, l.length ≤ 1000000) : Mr (fun b => O b ∨ G b) w m s := by
  obtain ⟨va, vt, rv, lv, rob, lob, its, ps, x, e1, e2⟩ := h
  have i1 : its.length = s.rs.length := by rw [← e1, List.length_map]
  have i2 : ps.length = s.ls.length := by rw [← e2, List.length_map]
  have a := x.ro (by omega)
  have b := x.lines (by omega) fun p hp => h3 _ (by rw [← e2]; exact List.mem_map_of_mem hp)
  rw [e1] at a
  rw [e2] at b
  refine ⟨va, vt, rv, lv, x.row, ?_, ?_, ?_⟩
  · obtain ⟨va', vt', ec, ha, ht⟩ := x.cg.ex
    refine ⟨va', vt', ec, ha.mono fun b q => .inr q, ?_⟩
    obtain ⟨r1, r2, r3, r4⟩ := ht
    exact ⟨r1, r2.mono fun b q => .inr q, r3, fun i p q => (r4 i p q).mono fun b q => .inr q⟩
  · obtain ⟨its', f1, f2, f3⟩ := a
    exact ⟨its', f1, f2.mono fun b q => .inl q, fun p hp => (f3 p hp).mono fun b q => .inl q⟩
  · obtain ⟨r1, r2, r3, r4⟩ := b
    exact ⟨r1, r2.mono fun b q => .inl q, r3, fun i p q => (r4 i p q).mono fun b q => .inl q⟩
theorem Mo.kp (h : Mo O G w m s) (hk : Kp S w w') (hS : ∀ b, S b → ¬ O b ∧ ¬ G b) : Mo O G w' m s := by
  obtain ⟨va, vt, rv, lv, rob, lob, its, ps, x, e1, e2⟩ := h
  exact ⟨va, vt, rv, lv, rob, lob, its, ps, x.kp hk hS, e1, e2⟩
theorem Mo.kp' (h : Mo O G w m s) (hk : Kp Emp w w') : Mo O G w' m s := h.kp hk fun b q => q.elim
theorem Mo.grow (h : Mo O G w m s) (hk : Kp Emp w w') : Mo (fun b => O b ∨ Nb w w' b) G w' m s := by
  obtain ⟨va, vt, rv, lv, rob, lob, its, ps, x, e1, e2⟩ := h
  exact ⟨va, vt, rv, lv, rob, lob, its, ps, x.grow hk, e1, e2⟩
theorem Mo.lt (h : Mo O G w m s) : ∀ b, O b ∨ G b → b < w.heap.size := by
  obtain ⟨va, vt, rv, lv, rob, lob, its, ps, x, e1, e2⟩ := h
  exact x.lt
theorem Mo.om (h : Mo O G w m s) : O m := by
  obtain ⟨va, vt, rv, lv, rob, lob, its, ps, x, e1, e2⟩ := h
  exact x.own m (.inl rfl)
abbrev zR : List Value := [I 0, I 0, I 0, I 0, I 0, I 0, nilS]
/-- types keep blocks apart -/
theorem Mx.nm (h : Mx O G w m now va vt rv lv rob lob its ps) : rob ≠ some m ∧ lob ≠ some m ∧ (∀ p ∈ ps, p.blk ≠ some m) ∧ (∀ b, rob = some b → lob ≠ some b) ∧ (∀ p ∈ ps, ∀ b, p.blk = some b → rob ≠ some b ∧ lob ≠ some b) := by
  refine ⟨h.rsl.ne h.row (by decide), h.lsl.ne h.row (by decide), fun p hp => (h.line p hp).ne h.row (by decide), fun b e => ?_, fun p hp b e => ?_⟩
  · obtain ⟨l, r⟩ := h.rsl.row e
    exact h.lsl.ne r (by decide)
  · obtain ⟨l, r⟩ := (h.line p hp).row e
    exact ⟨h.rsl.ne r (by decide), h.lsl.ne r (by decide)⟩
set_option maxHeartbeats 1000000 in
/-- a record is added -/
theorem Mx.addRec {p : Rec × Value} {X : World → Prop} (h : Mx O G w m now va vt rv lv rob lob its ps) (hl : Ar lC 2 (fun b => O b ∧ ¬ Bm m rob lob ps b) w p.2 p.1.legs) (hn : its.length ≤ 1000)
    (hX : ∀ w' rv' rob', Mx (fun b => O b ∨ Nb w w' b) G w' m now va vt rv' lv rob' lob (its ++ [p]) ps → Kp (Bm m rob lob ps) w w' → X w') :
    bsq 85 zR 1 [(some (0, 7), .agg (rC p).toArray)] (fun t38 w1 => Below w.heap.size w w1 ∧ apq 85 zR 72 rv t38 (fun t39 w2 => st1 (P m 15) t39 X w2) w1) w := by
  obtain ⟨n1, n2, n3, n4, n5⟩ := h.nm
  refine bsq_r (l := rC p) rfl fun w1 r1 hk1 hz1 => ⟨hk1.below', ?_⟩
  have hA1 : Ar rC 7 (fun b => b = w.heap.size) w1 (.slice (some ⟨w.heap.size, 0, none⟩) 1 1) [p] := Ar.row (xs := [p]) rC_len (by rw [rows_cons, show rows rC ([] : List (Rec × Value)) = [] from rfl, List.append_nil]; exact r1) rfl (by simp)
  have h1 := h.grow hk1
  refine Sl.app3 rC_len rfl (fun y hy => ?_) h1.rsl (hA1.rds rC_len) (by simp; omega) (by simp; omega) fun w2 rv2 rob2 s2 hk2 ho2 => ?_
  · rw [List.mem_singleton.1 hy]; exact rC_sc hl.scal
  have s12 := hk2.size
  have nm2 : ¬ rob = some m := n1
  have row2 := hk2.row h1.row nm2
  refine st1_r row2 (show 15 < 17 by decide) (by
    cases hb : rob2 with
    | none => rw [hb] at s2; obtain ⟨e, _⟩ := s2; rw [e]; rfl
    | some b => rw [hb] at s2; obtain ⟨cap, junk, e, _⟩ := s2; rw [e]; rfl) fun w3 row3 hk3 hz3 => ?_
  replace row3 : Row w3 m 119 (mrow va vt rv2 lv now) := row3
  have Om := h.own m (.inl rfl)
  have k13 : Kp (fun b => rob = some b ∨ b = m) w1 w3 := (hk2.mono fun b _ q => .inl q).trans (hk3.mono fun b _ q => .inr q)
  have hrob2 : ∀ b, rob2 = some b → rob = some b ∨ w1.heap.size ≤ b := fun b e => by
    rcases ho2 with q | ⟨c, q, hc⟩
    · exact .inl (by rw [← q]; exact e)
    · rw [q] at e; cases e; exact .inr hc
  have hnb : ∀ b, O b → b < w.heap.size := fun b q => h.lt b (.inl q)
  have sz13 := k13.size
  refine hX w3 rv2 rob2 ⟨row3, h1.cg.kp k13 fun b q r => ?_, s2.kp hk3 fun b e (q : b = m) => ?_, (h1.lsl.kp k13 fun b e r => ?_), (fun q hq => (h1.line q hq).kp k13 fun b e r => ?_), h.pw, fun b q => ?_, fun q hq => ?_, fun b q r => ?_, fun b q => ?_⟩ ?_
  · rcases r with r | r
    · exact h.gd b q (h.own b (.inr (.inl r)))
    · exact h.gd b q (r ▸ Om)
  · subst q
    rcases hrob2 b e with q | q
    · exact n1 q
    · have := hnb b Om; omega
  · rcases r with r | r
    · exact n4 b r e
    · exact n2 (r ▸ e)
  · rcases r with r | r
    · exact (n5 q hq b e).1 r
    · exact n3 q hq (r ▸ e)
  · rcases q with q | q | q
    · exact .inl (q ▸ Om)
    · rcases hrob2 b q with r | r
      · exact .inl (h.own b (.inr (.inl r)))
      · refine .inr ⟨by omega, ?_⟩
        subst q
        have := s2.lt
        omega
    · exact .inl (h.own b (.inr (.inr q)))
  · have key : ∀ x : Rec × Value, Ar lC 2 (fun b => O b ∧ ¬ Bm m rob lob ps b) w x.2 x.1.legs → Ar lC 2 (fun b => (O b ∨ Nb w w3 b) ∧ ¬ Bm m rob2 lob ps b) w3 x.2 x.1.legs := fun x hx => by
      refine ((hx.kp' hk1).kp k13 fun b q r => ?_).mono fun b q => ⟨.inl q.1, fun r => ?_⟩
      · rcases r with r | r
        · exact q.2 (.inr (.inl r))
        · exact q.2 (.inl r)
      · rcases r with r | r | r
        · exact q.2 (.inl r)
        · rcases hrob2 b r with r | r
          · exact q.2 (.inr (.inl r))
          · have := hnb b q.1; omega
        · exact q.2 (.inr (.inr r))
    rcases List.mem_append.1 hq with hq | hq
    · exact key q (h.legs q hq)
    · rw [List.mem_singleton.1 hq]; exact key p hl
  · rcases r with r | r
    · exact h.gd b q r
    · have := h.lt b (.inr q); have := r.1; omega
  · rcases q with (q | q) | q
    · have := hnb b q; omega
    · exact q.2
    · have := h.lt b (.inr q); omega
  · exact (hk1.none.trans (k13.mono fun b _ q => by
      rcases q with q | q
      · exact .inr (.inl q)
      · exact .inl q))
end
end Go.Proofs.Qxb6500896aGreat
