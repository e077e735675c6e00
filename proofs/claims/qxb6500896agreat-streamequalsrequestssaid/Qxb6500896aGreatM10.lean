import Derived.Test.Qxb6500896aGreatM9
namespace Go.Proofs.Qxb6500896aGreat
open Go.Sh Go.RowKit
set_option linter.unusedVariables false
set_option linter.unusedSimpArgs false

section
variable {O G O2 O' S F : Nat → Prop} {w w' : World} {m c : Nat} {now : Int} {va vt rv lv : Value} {rob lob : Option Nat} {its : List (Rec × Value)} {ps : List Lm} {s s2 : Ms} {K : Value → World → Prop} {X : World → Prop}
/-- a cell of a record is set -/
theorem Mx.setRec {i j rb : Nat} {x : Value} {y : Rec × Value} (h : Mx O G w m now va vt rv lv rob lob its ps) (hrb : rob = some rb) (hi : i < its.length) (hj : j < 7) (hx : scal x = true) (hy : rC y = (rC its[i]).set j x)
    (hl : Ar lC 2 (fun b => O b ∧ ¬ Bm m rob lob ps b) w y.2 y.1.legs) (hX : ∀ w', Mx O G w' m now va vt rv lv rob lob (its.set i y) ps → Kp (Bm m rob lob ps) w w' → w'.heap.size = w.heap.size → X w') : st1 (P rb (i * 7 + j)) x X w := by
  obtain ⟨n1, n2, n3, n4, n5⟩ := h.nm
  have hO := h.own rb (.inr (.inl hrb))
  have hsl := h.rsl
  rw [hrb] at hsl
  refine sl_upd (y := y) hsl rC_len hi hj hx hy fun w1 sl1 hk1 hz1 => ?_
  have kO : Kp (Bm m rob lob ps) w w1 := hk1.mono fun b _ (q : b = rb) => .inr (.inl (by rw [hrb, q]))
  refine hX w1 ⟨hk1.row h.row fun (q : m = rb) => n1 (by rw [q]; exact hrb), h.cg.kp hk1 fun b q (r : b = rb) => h.gd b q (r ▸ hO), by rw [hrb]; exact sl1, h.lsl.kp hk1 fun b e (q : b = rb) => n4 b (by rw [hrb, q]) e, fun p hp => (h.line p hp).kp hk1 fun b e (q : b = rb) => (n5 p hp b e).1 (by rw [hrb, q]), h.pw, h.own, fun p hp => ?_, h.gd, fun b q => by have := h.lt b q; omega⟩ kO hz1
  have nb : ∀ b, (O b ∧ ¬ Bm m rob lob ps b) → ¬ b = rb := fun b q r => q.2 (.inr (.inl (by rw [hrb, r])))
  rcases List.mem_or_eq_of_mem_set hp with q | q
  · exact (h.legs p q).kp hk1 nb
  · rw [q]; exact hl.kp hk1 nb
/-- the state is copied over -/
theorem Mo.copy (h : Mo O G w m s) (h2 : Mo O2 G w c s2) (hd : ∀ b, O2 b → ¬ O b) (hX : ∀ w', Mo (fun b => O b ∨ O2 b) G w' m s2 → Kp O w w' → w'.heap.size = w.heap.size → X w') :
    nck (P c 0) (fun t64 w => ldn 17 t64 (fun t65 w => nck (P m 0) (fun t66 w => stn 17 t66 t65 X w) w) w) w := by
  obtain ⟨va, vt, rv, lv, rob, lob, its, ps, x, e1, e2⟩ := h
  obtain ⟨va2, vt2, rv2, lv2, rob2, lob2, its2, ps2, y, f1, f2⟩ := h2
  have Om := x.own m (.inl rfl)
  refine nk0 (ldn_r y.row (show 0 + 17 ≤ 17 by decide) (nk0 ?_))
  have hsc : (mrow va2 vt2 rv2 lv2 s2.now).all scal = true := by
    have h1 := y.cg.sc
    unfold mrow
    rw [List.all_append, h1]
    simp only [List.all_cons, List.all_nil, sl_sc y.rsl, sl_sc y.lsl]
    rfl
  refine stn_r (cs := mrow va2 vt2 rv2 lv2 s2.now) x.row rfl (show 0 + 17 ≤ 17 by decide) hsc fun w1 r1 hk1 hz1 => ?_
  rw [List.take_zero, List.nil_append, Nat.zero_add, List.drop_of_length_le (show (mrow va vt rv lv s.now).length ≤ 17 from Nat.le_refl _), List.append_nil] at r1
  have nm : ∀ b, O2 b → ¬ b = m := fun b q r => hd b q (r ▸ Om)
  have o2 := y.own
  refine hX w1 ⟨va2, vt2, rv2, lv2, rob2, lob2, its2, ps2, ⟨r1, y.cg.kp hk1 fun b q (r : b = m) => x.gd b q (r ▸ Om), y.rsl.kp hk1 fun b e => nm b (o2 b (.inr (.inl e))), y.lsl.kp hk1 fun b e => nm b (o2 b (.inr (.inr (.inl e)))), fun p hp => (y.line p hp).kp hk1 fun b e => nm b (o2 b (.inr (.inr (.inr ⟨p, hp, e⟩)))), y.pw, fun b q => ?_, fun p hp => ?_, fun b q r => r.elim (x.gd b q) (y.gd b q), fun b q => ?_⟩, f1, f2⟩ (hk1.mono fun b _ (q : b = m) => q ▸ Om) hz1
  · rcases q with q | q
    · exact .inl (q ▸ Om)
    · exact .inr (o2 b (.inr q))
  · refine ((y.legs p hp).kp hk1 fun b q => nm b q.1).mono fun b q => ⟨.inr q.1, fun r => ?_⟩
    rcases r with r | r
    · exact nm b q.1 r
    · exact q.2 (.inr r)
  · rcases q with (q | q) | q
    · have := x.lt b (.inl q); omega
    · have := y.lt b (.inl q); omega
    · have := x.lt b (.inr q); omega
/-- one more record -/
theorem with_ok {r : Rec} {lvv : Value} (h : Mo O G w m s) (hm : Mk s) (hl : Ar lC 2 F w lvv r.legs) (hF : ∀ b, F b → b < w.heap.size ∧ ¬ G b)
    (hK : ∀ w' c, Mo (fun b => F b ∨ Nb w w' b) G w' c ⟨s.now, s.rs ++ [{ r with id := ((s.rs.length + 1 : Nat) : Int) }], s.ls⟩ → Kp Emp w w' → K (P c 0) w') : cl Tryz.prog 146 #[P m 0, .agg (rC (r, lvv)).toArray] K w := by
  have hlen := hm.vk.len
  apply c146
  unfold s146_p3
  refine nw_r fun w1 r1 hk1 hz1 => ?_
  replace r1 : Row w1 w.heap.size 85 (rC (r, lvv)) := r1
  refine mclone_ok (h.kp' hk1) hm fun w2 c h2 hk2 => ?_
  obtain ⟨va, vt, rv, lv, rob, lob, its, ps, x, e1, e2⟩ := h2
  have hil : its.length = s.rs.length := by rw [← e1, List.length_map]
  refine nk0 (fdp (ld1_r (v := rv) x.row rfl ?_))
  refine x.rsl.ln ?_
  rw [hil]
  simp only [e_add]
  rw [inc _ (by omega)]
  have r2 := hk2.row' r1
  refine fdp ?_
  refine st1_r r2 (show 0 < 7 by decide) rfl fun w3 r3 hk3 hz3 => ?_
  replace r3 : Row w3 w.heap.size 85 (rC ({ r with id := ((s.rs.length + 1 : Nat) : Int) }, lvv)) := r3
  have s2 := hk2.size
  have x3 := x.kp hk3 fun b (q : b = w.heap.size) => ⟨fun q2 => by have := q2.1; omega, fun q2 => by have := h.lt b (.inr q2); omega⟩
  have k03 : Kp Emp w w3 := (hk1.trans hk2).then hk3 fun b hb (q : b = _) => by omega
  unfold s146_p2 s146_p2_d
  have kd : Kp Emp w3 (drw w3) := kp_drw
  generalize drw w3 = w4 at kd ⊢
  have k04 := k03.trans kd
  have s4 := kd.size
  have s04 := k04.size
  have x4 : Mx (fun b => F b ∨ Nb w w4 b) G w4 c s.now va vt rv lv rob lob its ps := (x3.grow kd).sup (fun b q => .inr (by
    rcases q with q | q
    · exact ⟨by have := q.1; omega, by have := q.2; omega⟩
    · exact ⟨by have := q.1; omega, q.2⟩)) (fun b q r => by
    rcases r with r | r
    · exact (hF b r).2 q
    · have := h.lt b (.inr q); have := r.1; omega) fun b q => by
    rcases q with q | q
    · have := (hF b q).1; omega
    · exact q.2
  refine nk0 (fdp (ld1_r (v := rv) x4.row rfl ?_))
  refine ldn_r (kd.row' r3) (show 0 + 7 ≤ 7 by decide) ?_
  refine nk0 (fdp ?_)
  have nF : ∀ b, F b → ¬ Bm c rob lob ps b := fun b q r => by have := x.own b r; have := this.1; have := (hF b q).1; omega
  have hl4 : Ar lC 2 (fun b => (F b ∨ Nb w w4 b) ∧ ¬ Bm c rob lob ps b) w4 lvv r.legs := (hl.kp' k04).mono fun b q => ⟨.inl q, nF b q⟩
  refine x4.addRec (p := ({ r with id := ((s.rs.length + 1 : Nat) : Int) }, lvv)) hl4 (by omega) fun w5 rv5 rob5 x5 hk5 => ?_
  unfold s146_p1
  have bn : ∀ b, Bm c rob lob ps b → w.heap.size ≤ b := fun b q => by have := (x.own b q).1; omega
  have k05 : Kp Emp w w5 := k04.then hk5 fun b hb q => by have := bn b q; omega
  have s5 := hk5.size
  refine hK w5 c ⟨va, vt, rv5, lv, rob5, lob, its ++ [({ r with id := ((s.rs.length + 1 : Nat) : Int) }, lvv)], ps, x5.sup (fun b q => ?_) (fun b q r => ?_) (fun b q => ?_), by rw [List.map_append, e1]; rfl, e2⟩ k05
  · rcases q with (q | q) | q
    · exact .inl q
    · exact .inr ⟨q.1, by have := q.2; omega⟩
    · exact .inr ⟨by have := q.1; omega, q.2⟩
  · rcases r with r | r
    · exact (hF b r).2 q
    · have := h.lt b (.inr q); have := r.1; omega
  · rcases q with q | q
    · have := (hF b q).1; omega
    · exact q.2
end
end Go.Proofs.Qxb6500896aGreat
