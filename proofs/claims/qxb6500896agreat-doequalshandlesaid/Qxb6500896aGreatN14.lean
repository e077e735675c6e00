import Derived.Test.Qxb6500896aGreatN13
namespace Go.Proofs.Qxb6500896aGreat
open Go.Sh Go.RowKit
set_option linter.unusedVariables false
set_option linter.unusedSimpArgs false

/-! ### engines that differ in their counters alone -/
structure Sim (a b : Sg) : Prop where
  core : Core a b
  tail : b.tail = a.tail
  loose : b.loose = a.loose
  down : b.down = a.down
section
variable {a b c : Sg} {J : Jr} {C : Cfg} {q : Rq} {n : Int} {x bs : List Int}
theorem Sim.refl (a : Sg) : Sim a a := ⟨Core.refl a, rfl, rfl, rfl⟩
theorem Sim.symm (h : Sim a b) : Sim b a := ⟨h.core.symm, h.tail.symm, h.loose.symm, h.down.symm⟩
theorem Sim.trans (h : Sim a b) (h' : Sim b c) : Sim a c := ⟨h.core.trans h'.core, by rw [h'.tail, h.tail], by rw [h'.loose, h.loose], by rw [h'.down, h.down]⟩
theorem Sim.ref (code : Int) (a : Sg) : Sim a (refS code a) := ⟨(refS_same code a).core, (refS_o code a).2.1, (refS_o code a).2.2.1, (refS_o code a).1⟩
theorem Sim.img (h : Sim a b) : img C b = img C a := h.core.img
theorem Sim.ap (h : Sim a b) : (apS C q b).2 = (apS C q a).2 ∧ Sim (apS C q a).1 (apS C q b).1 := by
  have h1 := apS_core (C := C) (q := q) h.core
  have k1 := apS_keep C q a
  have k2 := apS_keep C q b
  have o1 := apS_o C q a
  have o2 := apS_o C q b
  exact ⟨h1.1, ⟨h1.2.1, h1.2.2.1, h1.2.2.2, by rw [k2.2.1, k1.2.1, h.core.seq]⟩, by rw [k2.2.2.1, k1.2.2.1, h.tail], by rw [k2.2.2.2, k1.2.2.2, h.loose], by rw [o2.1, o1.1, h.down]⟩
theorem Sim.snap (h : Sim a b) : Sim (snapS C a J).1 (snapS C b J).1 ∧ (snapS C b J).2 = (snapS C a J).2 := by
  unfold snapS
  rw [h.img]
  split
  · exact ⟨⟨⟨h.core.now, h.core.rs, h.core.ls, h.core.seq⟩, rfl, rfl, h.down⟩, rfl⟩
  · split
    · exact ⟨h, rfl⟩
    · exact ⟨⟨⟨h.core.now, h.core.rs, h.core.ls, h.core.seq⟩, h.tail, h.loose, rfl⟩, rfl⟩
theorem Sim.aft (h : Sim a b) : Sim (aftS C a J).1 (aftS C b J).1 ∧ (aftS C b J).2 = (aftS C a J).2 := by
  have hs := h.snap (C := C) (J := J)
  unfold aftS
  rw [h.tail]
  split
  · exact ⟨h, rfl⟩
  · refine ⟨hs.1, ?_⟩
    rw [hs.2]
theorem Sim.room (h : Sim a b) : Sim (roomS C a J n).1 (roomS C b J n).1 ∧ (roomS C b J n).2 = (roomS C a J n).2 := by
  have hs := h.snap (C := C) (J := J)
  unfold roomS
  rw [h.tail, hs.2]
  by_cases c0 : n ≤ roomR J
  · rw [if_pos c0, if_pos c0]; exact ⟨h, rfl⟩
  · rw [if_neg c0, if_neg c0]
    by_cases c1 : a.tail = 0
    · rw [if_pos c1, if_pos c1]; exact ⟨h, rfl⟩
    · rw [if_neg c1, if_neg c1]
      by_cases c2 : (snapS C a J).2.2 = 0
      · rw [if_pos c2, if_pos c2]; exact ⟨hs.1, rfl⟩
      · rw [if_neg c2, if_neg c2]; exact hs
theorem Sim.wrt (h : Sim a b) : Sim (wrtS a J x).1 (wrtS b J x).1 ∧ (wrtS b J x).2 = (wrtS a J x).2 := by
  unfold wrtS
  split
  · refine ⟨⟨⟨h.core.now, h.core.rs, h.core.ls, ?_⟩, ?_, ?_, h.down⟩, rfl⟩
    · show b.seq + 1 = a.seq + 1; rw [h.core.seq]
    · show b.tail + 1 = a.tail + 1; rw [h.tail]
    · show b.loose + 1 = a.loose + 1; rw [h.loose]
  · exact ⟨⟨⟨h.core.now, h.core.rs, h.core.ls, h.core.seq⟩, h.tail, h.loose, rfl⟩, rfl⟩
theorem Sim.set (h : Sim a b) : Sim (setS C a J).1 (setS C b J).1 ∧ (setS C b J).2 = (setS C a J).2 := by
  unfold setS
  by_cases c0 : a.down = true
  · rw [if_pos c0, if_pos (show b.down = true by rw [h.down]; exact c0)]; exact ⟨h, rfl⟩
  · rw [if_neg c0, if_neg (show ¬ b.down = true by rw [h.down]; exact c0)]
    by_cases c1 : a.loose = 0
    · rw [if_pos c1, if_pos (show b.loose = 0 by rw [h.loose]; exact c1)]; exact ⟨h, rfl⟩
    · rw [if_neg c1, if_neg (show ¬ b.loose = 0 by rw [h.loose]; exact c1)]
      by_cases c2 : (comJ J).2 = 0
      · rw [if_pos c2, if_pos c2]
        exact Sim.aft (C := C) (J := (comJ J).1) (a := { a with loose := 0 }) (b := { b with loose := 0 }) ⟨⟨h.core.now, h.core.rs, h.core.ls, h.core.seq⟩, h.tail, rfl, h.down⟩
      · rw [if_neg c2, if_neg c2]
        exact ⟨⟨⟨h.core.now, h.core.rs, h.core.ls, h.core.seq⟩, h.tail, h.loose, rfl⟩, rfl⟩
theorem Sim.chg (h : Sim a b) : Sim (chgS C q a J).1 (chgS C q b J).1 ∧ (chgS C q b J).2 = (chgS C q a J).2 := by
  unfold chgS
  simp only
  rw [h.core.seq]
  have h0 : Sim { a with ent := ent (a.seq + 1) q } { b with seq := a.seq, ent := ent (a.seq + 1) q } := ⟨⟨h.core.now, h.core.rs, h.core.ls, rfl⟩, h.tail, h.loose, h.down⟩
  have hr := h0.room (C := C) (J := J) (n := (((ent (a.seq + 1) q).length : Nat) : Int))
  generalize roomS C { a with ent := ent (a.seq + 1) q } J (((ent (a.seq + 1) q).length : Nat) : Int) = ra at hr ⊢
  generalize roomS C { b with seq := a.seq, ent := ent (a.seq + 1) q } J (((ent (a.seq + 1) q).length : Nat) : Int) = rb at hr ⊢
  obtain ⟨ra1, ra2⟩ := ra
  obtain ⟨rb1, rb2⟩ := rb
  obtain ⟨h1, h2⟩ := hr
  simp only at h1 h2 ⊢
  subst h2
  by_cases c0 : rb2.2 = 0
  · rw [if_pos c0, if_pos c0]
    obtain ⟨e1, e2⟩ := h1.ap (C := C) (q := q)
    rw [e1]
    by_cases c1 : (apS C q ra1).2.code = 0
    · rw [if_pos c1, if_pos c1]
      have hw := e2.wrt (J := rb2.1) (x := ent (a.seq + 1) q)
      generalize wrtS (apS C q ra1).1 rb2.1 (ent (a.seq + 1) q) = ya at hw ⊢
      generalize wrtS (apS C q rb1).1 rb2.1 (ent (a.seq + 1) q) = yb at hw ⊢
      obtain ⟨ya1, ya2⟩ := ya
      obtain ⟨yb1, yb2⟩ := yb
      obtain ⟨h3, h4⟩ := hw
      simp only at h3 h4 ⊢
      subst h4
      by_cases c2 : yb2.2 = 0
      · rw [if_pos c2, if_pos c2]
        exact ⟨⟨⟨h3.core.now, h3.core.rs, h3.core.ls, h3.core.seq⟩, h3.tail, h3.loose, h3.down⟩, rfl⟩
      · rw [if_neg c2, if_neg c2]
        exact ⟨((Sim.ref yb2.2 ya1).symm.trans h3).trans (Sim.ref yb2.2 yb1), rfl⟩
    · rw [if_neg c1, if_neg c1]
      exact ⟨((Sim.ref _ _).symm.trans e2).trans (Sim.ref _ _), rfl⟩
  · rw [if_neg c0, if_neg c0]
    exact ⟨((Sim.ref _ _).symm.trans h1).trans (Sim.ref _ _), rfl⟩
theorem Sim.stg (h : Sim a b) : Sim (stgS C q a J).1 (stgS C q b J).1 ∧ (stgS C q b J).2 = (stgS C q a J).2 := by
  have h0 : Sim { a with sr := w1 a.sr } { b with sr := w1 b.sr } := ⟨⟨h.core.now, h.core.rs, h.core.ls, h.core.seq⟩, h.tail, h.loose, h.down⟩
  have rr : ∀ code, Sim (refS code { a with sr := w1 a.sr }) (refS code { b with sr := w1 b.sr }) := fun code => ((Sim.ref _ _).symm.trans h0).trans (Sim.ref _ _)
  have e1 : qR C q { b with sr := w1 b.sr } = qR C q { a with sr := w1 a.sr } := qR_core h0.core q
  have ev : valid C b.now q = valid C a.now q := by rw [h.core.now]
  have hch := h0.chg (C := C) (q := q) (J := J)
  unfold stgS
  simp only
  generalize hA : ({ a with sr := w1 a.sr } : Sg) = A at h0 rr e1 hch
  generalize hB : ({ b with sr := w1 b.sr } : Sg) = B at h0 rr e1 hch
  have dA : A.down = a.down := by rw [← hA]
  have dB : B.down = b.down := by rw [← hB]
  by_cases c0 : a.down = true
  · rw [if_pos c0, if_pos (show b.down = true by rw [h.down]; exact c0)]; exact ⟨rr 19, rfl⟩
  · rw [if_neg c0, if_neg (show ¬ b.down = true by rw [h.down]; exact c0)]
    by_cases c1 : xpr q = false
    · rw [if_pos c1, if_pos c1]; exact ⟨rr 1, rfl⟩
    · rw [if_neg c1, if_neg c1, ev]
      by_cases c2 : valid C a.now q = 0
      · rw [if_pos c2, if_pos c2]
        by_cases c3 : isQ q.op = true
        · rw [if_pos c3, if_pos c3]
          unfold ansS
          rw [e1]
          by_cases c4 : (qR C q A).code = 0
          · rw [if_pos c4, if_pos c4]
            exact ⟨⟨⟨h0.core.now, h0.core.rs, h0.core.ls, h0.core.seq⟩, h0.tail, h0.loose, h0.down⟩, rfl⟩
          · rw [if_neg c4, if_neg c4]
            exact ⟨rr _, rfl⟩
        · rw [if_neg c3, if_neg c3]
          exact hch
      · rw [if_neg c2, if_neg c2]; exact ⟨rr _, rfl⟩
theorem Sim.do (h : Sim a b) : Sim (doS C q a J).1 (doS C q b J).1 ∧ (doS C q b J).2 = (doS C q a J).2 := by
  have hs := h.stg (C := C) (q := q) (J := J)
  unfold doS
  simp only
  generalize stgS C q a J = x at hs ⊢
  generalize stgS C q b J = y at hs ⊢
  obtain ⟨x1, x2⟩ := x
  obtain ⟨y1, y2⟩ := y
  obtain ⟨h1, h2⟩ := hs
  simp only at h1 h2 ⊢
  subst h2
  have ht := h1.set (C := C) (J := y2.1)
  refine ⟨ht.1, ?_⟩
  rw [ht.2]
/-- the same request in bytes and as a value -/
theorem hnd_do (hd : a.down = false) (h0 : (dec bs).2 = 0) : hndS C bs a J = doS C (dec bs).1 a J := by
  have est : stbS C bs a J = stgS C (dec bs).1 a J := by
    unfold stbS
    rw [if_neg (by rw [hd]; decide), if_pos h0]
  unfold hndS doS
  rw [est]
/-- a value that has no bytes -/
theorem do_odd (h : RgI park a J) (hlo : a.loose = 0) (hx : xpr q = false) : Sim a (doS park q a J).1 ∧ (doS park q a J).2 = (J, rf 1) := by
  have est : stgS park q a J = (refS 1 { a with sr := w1 a.sr }, J, rf 1) := by
    unfold stgS
    simp only
    rw [if_neg (by rw [h.dn]; decide), if_pos hx]
  have h0 : Sim a (refS 1 { a with sr := w1 a.sr }) := Sim.trans (b := { a with sr := w1 a.sr }) ⟨⟨rfl, rfl, rfl, rfl⟩, rfl, rfl, rfl⟩ (Sim.ref _ _)
  have es : setS park (refS 1 { a with sr := w1 a.sr }) J = (refS 1 { a with sr := w1 a.sr }, J, 0) := by
    unfold setS
    rw [if_neg (by rw [h0.down, h.dn]; decide), if_pos (by rw [h0.loose]; exact hlo)]
  unfold doS
  rw [est]
  simp only
  rw [es]
  exact ⟨h0, rfl⟩
end
end Go.Proofs.Qxb6500896aGreat
