import Derived.Test.Qxb6500896aGreatM4
namespace Go.Proofs.Qxb6500896aGreat
open Go.Sh Go.RowKit
set_option linter.unusedVariables false
set_option linter.unusedSimpArgs false

theorem sl_sc {α : Type} {f : α → List Value} {k : Nat} {w : World} {e : TypeId} {ob : Option Nat} {v : Value} {xs : List α} (h : Sl f k w e ob v xs) : scal v = true := by
  cases ob with
  | none => obtain ⟨e, _⟩ := h; rw [e]; rfl
  | some b => obtain ⟨cap, junk, e, _⟩ := h; rw [e]; rfl
section
variable {O G O' S F : Nat → Prop} {w w' : World} {m : Nat} {now : Int} {va vt rv lv : Value} {rob lob : Option Nat} {its : List (Rec × Value)} {ps : List Lm} {s : Ms} {K : Value → World → Prop} {ids : List Int} {v7 : Value}
set_option maxHeartbeats 1000000 in
/-- a line is added -/
theorem Mx.addLine {X : World → Prop} (h : Mx O G w m now va vt rv lv rob lob its ps) (hv : Ar iC 1 F w v7 ids) (hF : ∀ b, F b → b < w.heap.size) (hl : ids.length ≤ 1000000) (hn : ps.length ≤ 1000)
    (hX : ∀ w' lv' lob' p, p.ids = ids → Mx (fun b => O b ∨ Nb w w' b) G w' m now va vt rv lv' rob lob' its (ps ++ [p]) → Kp (Bm m rob lob ps) w w' → X w') :
    bsq 3 [I 0] 0 [] (fun t57 w1 => Below w.heap.size w w1 ∧ apq 3 [I 0] 8 t57 v7 (fun t59 w2 => Below w.heap.size w w2 ∧ bsq 79 [nilS] 1 [(some (0, 1), t59)] (fun t60 w3 => Below w.heap.size w w3 ∧ apq 79 [nilS] 24 lv t60 (fun t61 w4 => st1 (P m 16) t61 X w4) w3) w2) w1) w := by
  obtain ⟨n1, n2, n3, n4, n5⟩ := h.nm
  refine Sl.empty (f := iC) (k := 1) (e := 3) fun w1 sl1 hk1 hz1 => ⟨hk1.below', ?_⟩
  refine Sl.app3 (f := iC) (k := 1) iC_len rfl (fun _ _ => rfl) sl1 ((hv.kp' hk1).rds iC_len) (by simp only [List.length_nil]; omega) (by simp only [List.length_nil]; omega) fun w2 v2 ob2 sl2 hk2 ho2 => ?_
  rw [List.nil_append] at sl2
  have k02 : Kp Emp w w2 := hk1.then hk2 fun b hb e => by cases e; omega
  have s2 := hk2.size
  obtain ⟨lb, hlb, hlb0⟩ : ∃ lb, ob2 = some lb ∧ w.heap.size ≤ lb := by
    rcases ho2 with q | ⟨c, q, hc⟩
    · exact ⟨_, q, Nat.le_refl _⟩
    · exact ⟨c, q, by omega⟩
  subst hlb
  have lblt := sl2.lt
  refine ⟨k02.below', ?_⟩
  refine bsq_r (l := [v2]) (fill_one (sl_sc sl2)) fun w3 r3 hk3 hz3 => ⟨(k02.trans hk3).below', ?_⟩
  have k03 := k02.trans hk3
  have h3 := h.grow k03
  have hA3 : Ar lmC 1 (fun b => b = w2.heap.size) w3 (.slice (some ⟨w2.heap.size, 0, none⟩) 1 1) [⟨ids, v2, some lb⟩] := Ar.row (xs := [(⟨ids, v2, some lb⟩ : Lm)]) lmC_len (by rw [rows_cons, show rows lmC ([] : List Lm) = [] from rfl, List.append_nil]; exact r3) rfl (by simp)
  refine Sl.app3 lmC_len rfl (fun y hy => ?_) h3.lsl (hA3.rds lmC_len) (by simp; omega) (by simp; omega) fun w4 lv4 lob4 s4 hk4 ho4 => ?_
  · rw [List.mem_singleton.1 hy]
    show [v2].all scal = true
    simp only [List.all_cons, List.all_nil, sl_sc sl2]
    rfl
  have s4' := hk4.size
  refine st1_r (hk4.row h3.row n2) (show 16 < 17 by decide) (sl_sc s4) fun w5 row5 hk5 hz5 => ?_
  replace row5 : Row w5 m 119 (mrow va vt rv lv4 now) := row5
  have Om := h.own m (.inl rfl)
  have hnb : ∀ b, O b → b < w.heap.size := fun b q => h.lt b (.inl q)
  have k35 : Kp (fun b => lob = some b ∨ b = m) w3 w5 := (hk4.mono fun b _ q => .inl q).trans (hk5.mono fun b _ q => .inr q)
  have hlob4 : ∀ b, lob4 = some b → lob = some b ∨ w3.heap.size ≤ b := fun b e => by
    rcases ho4 with q | ⟨c, q, hc⟩
    · exact .inl (by rw [← q]; exact e)
    · rw [q] at e; cases e; exact .inr hc
  have sz35 := k35.size
  have lbO : ∀ b, lob = some b → b < w.heap.size := fun b e => hnb b (h.own b (.inr (.inr (.inl e))))
  have bnew : ∀ b, Bm m rob lob4 (ps ++ [⟨ids, v2, some lb⟩]) b → Bm m rob lob ps b ∨ w.heap.size ≤ b := fun b q => by
    rcases q with q | q | q | ⟨p, hp, q⟩
    · exact .inl (.inl q)
    · exact .inl (.inr (.inl q))
    · rcases hlob4 b q with r | r
      · exact .inl (.inr (.inr (.inl r)))
      · exact .inr (by omega)
    · rcases List.mem_append.1 hp with hp | hp
      · exact .inl (.inr (.inr (.inr ⟨p, hp, q⟩)))
      · rw [List.mem_singleton.1 hp] at q
        cases q
        exact .inr hlb0
  refine hX w5 lv4 lob4 ⟨ids, v2, some lb⟩ rfl ⟨row5, h3.cg.kp k35 fun b q r => ?_, h3.rsl.kp k35 fun b e r => ?_, s4.kp hk5 fun b e (q : b = m) => ?_, fun p hp => ?_, ?_, fun b q => ?_, fun p hp => ?_, fun b q r => ?_, fun b q => ?_⟩ ?_
  · rcases r with r | r
    · exact h.gd b q (h.own b (.inr (.inr (.inl r))))
    · exact h.gd b q (r ▸ Om)
  · rcases r with r | r
    · exact n4 b e r
    · exact n1 (r ▸ e)
  · subst q
    rcases hlob4 b e with q | q
    · exact n2 q
    · have := hnb b Om; omega
  · rcases List.mem_append.1 hp with hp | hp
    · refine (h3.line p hp).kp k35 fun b e r => ?_
      rcases r with r | r
      · exact (n5 p hp b e).2 r
      · exact n3 p hp (r ▸ e)
    · rw [List.mem_singleton.1 hp]
      refine (sl2.kp' hk3).kp k35 fun b e r => ?_
      cases e
      rcases r with r | r
      · have := lbO lb r; omega
      · have := hnb m Om; omega
  · rw [List.pairwise_append]
    refine ⟨h.pw, List.pairwise_singleton _ _, fun p hp q hq b e r => ?_⟩
    rw [List.mem_singleton.1 hq] at r
    cases r
    have := hnb lb (h.own lb (.inr (.inr (.inr ⟨p, hp, e⟩))))
    omega
  · rcases q with q | q | q | ⟨p, hp, q⟩
    · exact .inl (q ▸ Om)
    · exact .inl (h.own b (.inr (.inl q)))
    · rcases hlob4 b q with r | r
      · exact .inl (h.own b (.inr (.inr (.inl r))))
      · refine .inr ⟨by omega, ?_⟩
        subst q
        have := s4.lt
        omega
    · rcases List.mem_append.1 hp with hp | hp
      · exact .inl (h.own b (.inr (.inr (.inr ⟨p, hp, q⟩))))
      · rw [List.mem_singleton.1 hp] at q
        cases q
        exact .inr ⟨hlb0, by omega⟩
  · refine (((h.legs p hp).kp' k03).kp k35 fun b q r => ?_).mono fun b q => ⟨.inl q.1, fun r => ?_⟩
    · rcases r with r | r
      · exact q.2 (.inr (.inr (.inl r)))
      · exact q.2 (.inl r)
    · rcases bnew b r with r | r
      · exact q.2 r
      · have := hnb b q.1; omega
  · rcases r with r | r
    · exact h.gd b q r
    · have := h.lt b (.inr q); have := r.1; omega
  · rcases q with (q | q) | q
    · have := hnb b q; omega
    · exact q.2
    · have := h.lt b (.inr q); omega
  · exact k03.none.trans (k35.mono fun b _ q => by
      rcases q with q | q
      · exact .inr (.inr (.inl q))
      · exact .inl q)
end
end Go.Proofs.Qxb6500896aGreat
