import Derived.Test.Qxb6500896aGreatM13
namespace Go.Proofs.Qxb6500896aGreat
open Go.Sh Go.RowKit
set_option linter.unusedVariables false
set_option linter.unusedSimpArgs false

abbrev Sg.ms (σ : Sg) : Ms := ⟨σ.now, σ.rs, σ.ls⟩
theorem isPr_snoc (l : List Iss) (x : Iss) : isPr (l ++ [x]) = isPr l ++ [x.id, x.slot] := by
  unfold isPr
  rw [List.flatMap_append]
  rfl
theorem isPr_enc (l : List Iss) : (isPr l).flatMap uI = encIss l := by
  unfold isPr encIss
  induction l with
  | nil => rfl
  | cons x l ih => rw [List.flatMap_cons, List.flatMap_append, ih, List.flatMap_cons]; simp
section
variable {O G O2 O' S F : Nat → Prop} {w w' w0 : World} {m c ib : Nat} {now : Int} {iv : Value} {s s2 : Ms} {K : Value → World → Prop} {X : World → Prop} {seq : Int} {B1 : List Value → World → Prop} {t29 t30 : Value}
/-- a tick while it serves -/
structure Tk (O G : Nat → Prop) (w0 : World) (O' : Nat → Prop) (w : World) (m : Nat) (now seq : Int) (ib : Nat) (iv : Value) (S : SrvS) : Prop where
  mw : Mw O G w0 O' w m ⟨now, S.rs, S.ls⟩
  sl : Sl iC 1 w 3 (some ib) iv (isPr S.iss)
  ge : w0.heap.size ≤ ib
  no : ¬ O' ib
  g : Gd park seq now S.rs S.ls
  n : S.iss.length + waits S.rs ≤ 26
theorem Tk.emp {S : SrvS} (h : Tk O G w0 O' w m now seq ib iv S) (hk : Kp Emp w w') : Tk O G w0 O' w' m now seq ib iv S := ⟨h.mw.emp hk, h.sl.kp' hk, h.ge, h.no, h.g, h.n⟩
set_option maxHeartbeats 2000000 in
/-- one window is given out -/
theorem tk_step {S : SrvS} {a : Nat} {p : Int × Int} {Y : Value → World → Prop} (h : Tk O G w0 O' w m now seq ib iv S) (ha : a < 3) (hp : firstOf park S.rs now (lnOf S.ls (a : Nat)) = some p)
    (hY : ∀ w' O2 ib2 iv2, Tk O G w0 O2 w' m now seq ib2 iv2 ⟨(tIssue p.1 p.2 S.rs).1, tRemove p.1 S.ls, S.iss ++ [⟨p.1, p.2⟩]⟩ → Y iv2 w') :
    cl Tryz.prog 152 #[P m 0, I p.1, I p.2] (fun t51 w => nck t51 (fun t52 w => ldn 17 t52 (fun t53 w => nck (P m 0) (fun t54 w => stn 17 t54 t53 (fun w => bsq 3 [I 0] 2 [(some (0, 1), I p.1), (some (1, 1), I p.2)] (fun t58 w => apq 3 [I 0] 8 iv t58 Y w) w) w) w) w) w) w := by
  have g := h.g
  have hm : Mk ⟨now, S.rs, S.ls⟩ := MG.mk ⟨seq, g⟩
  obtain ⟨ei, hh, hln⟩ := issM_eq (s := ⟨now, S.rs, S.ls⟩) g ha hp
  obtain ⟨hpm, hpo⟩ := firstOf_mem hp
  obtain ⟨_, h7, p0, p1⟩ := tOffer_b hpo
  refine issued_ok h.mw.mo hm hh (by show 1 ≤ (rget S.rs p.1).ln ∧ (rget S.rs p.1).ln ≤ 3; have : (rget S.rs p.1).ln = ((a : Nat) : Int) + 1 := hln; omega) fun w1 c h1 hk1 => ?_
  rw [ei] at h1
  have m1 := h.mw.emp hk1
  have s0 := h.mw.k.size
  have s1 := hk1.size
  have olt : ∀ b, O' b → b < w.heap.size := fun b q => h.mw.mo.lt b (.inl q)
  refine m1.copy h1 (fun b q r => by have := q.1; have := olt b r; omega) (fun b q => ⟨by have := q.1; omega, q.2⟩) fun w2 m2 hk2 hz2 => ?_
  have sl1 := h.sl.kp' hk1
  have iblt := h.sl.lt
  have sl2 := sl1.kp hk2 fun b e => by cases e; exact h.no
  have ilen := isPr_len S.iss
  have hn := h.n
  refine bsq_r (l := [I p.1, I p.2]) rfl fun w3 r3 hk3 hz3 => ?_
  have sl5 : Sl iC 1 w3 3 (some w2.heap.size) (.slice (some ⟨w2.heap.size, 0, none⟩) 2 2) [p.1, p.2] := ⟨2, [], rfl, Nat.le_refl _, rfl, by rw [List.append_nil]; exact r3⟩
  refine Sl.app2 iC_len rfl (fun _ _ => rfl) (sl2.kp' hk3) sl5 (by simp only [List.length_cons, List.length_nil]; omega) (by simp only [List.length_cons, List.length_nil]; omega) fun w4 v4 ob4 sl4 hk4 ho4 => ?_
  have m3 := m2.emp hk3
  have nib : ¬ (O' ib ∨ Nb w w1 ib) := fun q => q.elim h.no fun q => by have := q.1; omega
  have m4 : Mw O G w0 (fun b => O' b ∨ Nb w w1 b) w4 m _ := m3.kp hk4 fun b e => by cases e; exact ⟨nib, h.ge⟩
  have hb4 : ∃ b4, ob4 = some b4 ∧ w0.heap.size ≤ b4 ∧ ¬ (O' b4 ∨ Nb w w1 b4) := by
    rcases ho4 with q | ⟨c, q, hc⟩
    · exact ⟨_, q, h.ge, nib⟩
    · exact ⟨c, q, by omega, fun q => by have := m3.mo.lt c (.inl q); omega⟩
  obtain ⟨b4, rfl, hb4, nb4⟩ := hb4
  have hw := tIssue_w (slot := p.2) hh h7
  refine hY w4 _ b4 v4 ⟨m4, ?_, hb4, nb4, g.issue park_cv hpo, ?_⟩
  · rw [isPr_snoc]; exact sl4
  · simp only [List.length_append, List.length_singleton]
    have : waits (tIssue p.1 p.2 S.rs).1 + 1 = waits S.rs := hw
    omega
set_option maxHeartbeats 2000000 in
/-- a line is served -/
theorem tk_line {S : SrvS} {a : Nat} (h : Tk O G w0 O' w m now seq ib iv S) (ha : a < 3)
    (hB : ∀ w' O2 ib2 iv2, Tk O G w0 O2 w' m now seq ib2 iv2 (srvA park now a (waits S.rs + 1) S) → B1 [P m 0, iv2, t29, I ((a + 1 : Nat) : Int)] w') :
    s94_p16 K B1 (P m 0) iv t29 (I (a : Nat)) w := by
  unfold s94_p16
  refine oldest_ok h.mw.mo h.g ha fun w1 k1 => ?_
  simp only [ex2_0, ex2_1]
  unfold s94_p15
  refine loop_m (waits S.rs) (fun n l w' => ∃ S' O2 ib2 iv2, n = waits S'.rs ∧ l = [P m 0, iv2, I (a : Nat), I ((firstOf park S'.rs now (lnOf S'.ls (a : Nat))).getD (0, 0)).1, I ((firstOf park S'.rs now (lnOf S'.ls (a : Nat))).getD (0, 0)).2, t29, I (a : Nat)] ∧ Tk O G w0 O2 w' m now seq ib2 iv2 S' ∧ srvA park now a (waits S.rs + 1) S = srvA park now a (waits S'.rs + 1) S') ⟨S, O', ib, iv, rfl, rfl, h.emp k1, rfl⟩ ?_
  rintro n l w2 ⟨S', O2, ib2, iv2, hn, rfl, h2, he⟩ B hB2
  rw [s94_p15_Fe]
  unfold s94_p14
  cases hf : firstOf park S'.rs now (lnOf S'.ls (a : Nat)) with
  | none =>
    have e0 : ((0 : Int) != 0) = false := rfl
    simp only [Option.getD_none, e_neq, e0, e_iff]
    unfold s94_p13
    simp only [e_add]
    rw [inc a (by omega)]
    rw [srvA_none hf] at he
    exact hB w2 O2 ib2 iv2 (he ▸ h2)
  | some p =>
    obtain ⟨hpm, hpo⟩ := firstOf_mem hf
    obtain ⟨hh, h7, _, _⟩ := tOffer_b hpo
    have e0 : (p.1 != 0) = true := by rw [bne_iff_ne]; have := hh.1; omega
    simp only [Option.getD_some, e_neq, e0, e_ift]
    refine tk_step h2 ha hf fun w3 O3 ib3 iv3 h3 => ?_
    refine oldest_ok h3.mw.mo h3.g ha fun w4 k4 => ?_
    simp only [ex2_0, ex2_1]
    have hw := tIssue_w (slot := p.2) hh h7
    exact hB2 (waits (tIssue p.1 p.2 S'.rs).1) _ _ (by omega) ⟨_, O3, ib3, iv3, rfl, rfl, h3.emp k4, he.trans (srvA_step hf)⟩
set_option maxHeartbeats 2000000 in
/-- all lines are served -/
theorem tk_serve (h : Tk O G w0 O' w m now seq ib iv ⟨s.rs, s.ls, []⟩)
    (hX : ∀ w' O2 ib2 iv2, Tk O G w0 O2 w' m now seq ib2 iv2 (tServe park now s.rs s.ls) → s94_p12 K (P m 0) iv2 w') :
    s94_p18 K (P m 0) iv (I (3 : Nat)) (I 0) w := by
  have hl : s.ls.length = 3 := h.g.li.len
  unfold tServe at hX
  rw [hl] at hX
  unfold s94_p18
  refine loop_n 3 (fun i l w' => ∃ S' O2 ib2 iv2, l = [P m 0, iv2, I (3 : Nat), I (i : Nat)] ∧ Tk O G w0 O2 w' m now seq ib2 iv2 S' ∧ srvL park now 3 0 ⟨s.rs, s.ls, []⟩ = srvL park now (3 - i) i S') ⟨_, O', ib, iv, rfl, h, rfl⟩ ?_ ?_
  · rintro i l w2 hi ⟨S', O2, ib2, iv2, rfl, h2, he⟩ B hB
    rw [s94_p18_Fe]
    unfold s94_p17
    simp only [dlt hi, e_lss, e_ift]
    refine tk_line h2 hi fun w3 O3 ib3 iv3 h3 => hB _ _ ⟨_, O3, ib3, iv3, rfl, h3, ?_⟩
    rw [he, show 3 - i = (3 - (i + 1)) + 1 by omega, srvL]
  · rintro l w2 ⟨S', O2, ib2, iv2, rfl, h2, he⟩ B
    rw [s94_p18_Fe]
    unfold s94_p17
    simp only [dnlt, e_lss, e_iff]
    rw [show 3 - 3 = 0 from rfl, srvL] at he
    rw [he] at hX
    exact hX w2 O2 ib2 iv2 h2
end
end Go.Proofs.Qxb6500896aGreat
