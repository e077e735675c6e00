import Derived.Test.Qxb6500894aDoorE6
import Derived.Test.Qxb6500894aDoorShFlat
namespace Go.Proofs.Qxb6500894aDoor
open Go.Sh Go.RowKit
set_option linter.unusedVariables false
set_option linter.unusedSimpArgs false
set_option maxRecDepth 20000

set_option maxRecDepth 100000 in
theorem leaf40 : leafTs Tryd.prog 4 40 = some [24, 2, 25, 2, 28, 2, 2, 2, 2, 9, 9, 33, 9, 9, 9, 9, 9, 34, 37, 38] := by kernel_rfl
set_option maxRecDepth 100000 in
theorem leaf54 : leafTs Tryd.prog 4 54 = some [9, 47, 4, 2, 2, 21, 9, 47, 50] := by kernel_rfl
set_option maxRecDepth 100000 in
theorem cells40 : Tryd.prog.cellsOf 40 = 20 := by kernel_rfl
set_option maxRecDepth 100000 in
theorem cells54 : Tryd.prog.cellsOf 54 = 9 := by kernel_rfl
set_option maxRecDepth 100000 in
theorem cells9 : Tryd.prog.cellsOf 9 = 1 := by kernel_rfl
set_option maxRecDepth 100000 in
theorem bytes40 : Tryd.prog.bytesOf 40 = 264 := by kernel_rfl
set_option maxRecDepth 100000 in
theorem bytes54 : Tryd.prog.bytesOf 54 = 96 := by kernel_rfl
set_option maxRecDepth 100000 in
theorem bytes9 : Tryd.prog.bytesOf 9 = 16 := by kernel_rfl
set_option maxRecDepth 100000 in
theorem bytes5 : Tryd.prog.bytesOf 5 = 1 := by kernel_rfl

theorem reach_eq : reachBytes = 140737488351232 := rfl

theorem all_scal {cs : List Value} (h : ∀ i, i < cs.length → ∃ v, cs[i]? = some v ∧ scal v = true) : cs.all scal = true := by
  rw [List.all_eq_true]
  intro x hx
  obtain ⟨i, hi, rfl⟩ := List.getElem_of_mem hx
  obtain ⟨v, h1, h2⟩ := h i hi
  rw [List.getElem?_eq_getElem hi] at h1
  have : cs[i] = v := by simpa using h1
  rw [this]; exact h2

section
variable {W : World} {f g : Nat} {cs : List Value} {u : Value}
theorem str_of (h : TZ Tryd.prog W reachBytes g 9 [u]) : ∃ s : ByteArray, u = .string s ∧ s.size ≤ 140737488351232 := by
  obtain ⟨s, e, hz⟩ := tz_string u9 h
  simp only [List.cons.injEq, and_true] at e
  exact ⟨s, e, hz⟩
theorem sat_of (h : TZ Tryd.prog W reachBytes g 33 [u]) : ∃ ss, SAt W u ss := by
  rcases tz_slice Tryd.underlying33 h with e | ⟨a, len, cap, gg, e, hgg, hlc, hcm, hby, hel⟩
  · simp only [List.cons.injEq, and_true] at e
    exact ⟨[], .inl ⟨e, rfl⟩⟩
  · simp only [List.cons.injEq, and_true] at e
    rw [cells9] at hel
    rw [bytes9, reach_eq] at hby
    obtain ⟨ss, hl, hss⟩ := choose_list len (fun i (s : ByteArray) => s.size ≤ 140737488351232 ∧ ∃ b o, a.add (i * 1) = ⟨b, o, none⟩ ∧ Cells W b o (bl s)) (fun i hi => by
      obtain ⟨ds, h1, h2⟩ := hel i hi
      obtain ⟨b, o, e1, e2, e3⟩ := cells_in h1 (by omega)
      obtain ⟨s, e4, hz⟩ := tz_string u9 h2
      exact ⟨s, hz, b, o, e1, by rw [e4] at e3; exact e3⟩)
    exact ⟨ss, .inr ⟨a, cap, by rw [e, hl], by omega, fun j hj => hss j hj⟩⟩
theorem pat_of {F : Nat} (hF : g ≤ F) (h : TZ Tryd.prog W reachBytes g 34 [u]) : ∃ ps, PAt W u ps ∧ ∀ p ∈ ps, p.1.size ≤ 140737488351232 ∧ VOk W F p.2 := by
  rcases tz_slice Tryd.underlying34 h with e | ⟨a, len, cap, gg, e, hgg, hlc, hcm, hby, hel⟩
  · simp only [List.cons.injEq, and_true] at e
    exact ⟨[], .inl ⟨e, rfl⟩, by simp⟩
  · simp only [List.cons.injEq, and_true] at e
    rw [cells54] at hel
    rw [bytes54, reach_eq] at hby
    obtain ⟨ps, hl, hps⟩ := choose_list len (fun i (p : Pr) => (p.1.size ≤ 140737488351232 ∧ VOk W F p.2) ∧ ∃ b o, a.add (i * 9) = ⟨b, o, none⟩ ∧ Cells W b o (pcl p)) (fun i hi => by
      obtain ⟨ds, h1, h2⟩ := hel i hi
      obtain ⟨b, o, e1, e2, e3⟩ := cells_in h1 (by omega)
      obtain ⟨g2, hg2, hdl, hf⟩ := tz_struct Tryd.underlying54 h2
      have k0 := hf _ (List.mem_cons_self ..)
      have k1 := hf _ (List.mem_cons_of_mem _ (List.mem_cons_self ..))
      simp only [cells9, cells52] at k0 k1
      obtain ⟨s, e4, hz⟩ := tz_string u9 k0
      obtain ⟨x, e5, hx⟩ := vok_of_tv g2 g2 _ (Nat.le_refl _) k1
      refine ⟨(s, x), ⟨hz, hx.mono (by omega)⟩, b, o, e1, ?_⟩
      have : ds = pcl (s, x) := by
        match ds, e2 with
        | d0 :: ds, e2 =>
          simp only [List.length_cons] at e2
          have q0 : d0 = .string s := by simpa using e4
          have q1 : ds = x.cells := by
            have := e5
            simp only [List.drop_succ_cons, List.drop_zero] at this
            rw [List.take_of_length_le (by omega)] at this
            exact this
          rw [q0, q1]; rfl
      rw [← this]; exact e3)
    refine ⟨ps, .inr ⟨a, cap, by rw [e, hl], by omega, fun j hj => (hps j hj).2⟩, fun p hp => ?_⟩
    obtain ⟨j, hj, rfl⟩ := List.getElem_of_mem hp
    exact (hps j hj).1

set_option maxRecDepth 100000 in
theorem u37 : Tryd.prog.underlying 37 = some (.int .u8) := by kernel_rfl
theorem wf_i64 {n : Int} (h : (Lit.int .i64 n).wf = true) : i64r n := by
  have e1 : IntKind.i64.min = -9223372036854775808 := by decide
  have e2 : IntKind.i64.max = 9223372036854775807 := by decide
  simp only [Lit.wf, e1, e2, decide_eq_true_eq, Bool.and_eq_true] at h
  exact h
theorem wf_u8 {n : Int} (h : (Lit.int .u8 n).wf = true) : 0 ≤ n ∧ n ≤ 255 := by
  have e1 : IntKind.u8.min = 0 := by decide
  have e2 : IntKind.u8.max = 255 := by decide
  simp only [Lit.wf, e1, e2, decide_eq_true_eq, Bool.and_eq_true] at h
  exact h
theorem i64_of {i : Nat} {u : Value} (h : TZ Tryd.prog W reachBytes g 2 [u]) (e : cs[i]? = some u) : ∃ n : Int, cs[i]? = some (I n) ∧ i64r n := by
  obtain ⟨n, q, hw⟩ := tz_int u2 h
  simp only [List.cons.injEq, and_true] at q
  rw [q] at e
  exact ⟨n, e, wf_i64 hw⟩
theorem rc_of {F : Nat} (hF : g ≤ F) (h : TZ Tryd.prog W reachBytes g 40 cs) : ∃ x : Rc, x.cs = cs ∧ RcOk W F x := by
  obtain ⟨hl, hv⟩ := leafTs_ok 4 40 _ leaf40 g cs h
  have hlen : cs.length = 20 := hl
  obtain ⟨_, v9, e9, _, _, t9⟩ := hv 9 9 rfl
  obtain ⟨_, v10, e10, _, _, t10⟩ := hv 10 9 rfl
  obtain ⟨_, v11, e11, _, _, t11⟩ := hv 11 33 rfl
  obtain ⟨_, v12, e12, _, _, t12⟩ := hv 12 9 rfl
  obtain ⟨_, v13, e13, _, _, t13⟩ := hv 13 9 rfl
  obtain ⟨_, v14, e14, _, _, t14⟩ := hv 14 9 rfl
  obtain ⟨_, v15, e15, _, _, t15⟩ := hv 15 9 rfl
  obtain ⟨_, v16, e16, _, _, t16⟩ := hv 16 9 rfl
  obtain ⟨_, v17, e17, _, hg17, t17⟩ := hv 17 34 rfl
  obtain ⟨_, v19, e19, _, _, t19⟩ := hv 19 38 rfl
  obtain ⟨s9, q9, z9⟩ := str_of t9
  obtain ⟨s10, q10, z10⟩ := str_of t10
  obtain ⟨s12, q12, z12⟩ := str_of t12
  obtain ⟨s13, q13, z13⟩ := str_of t13
  obtain ⟨s14, q14, z14⟩ := str_of t14
  obtain ⟨s15, q15, z15⟩ := str_of t15
  obtain ⟨s16, q16, z16⟩ := str_of t16
  obtain ⟨lbs, hlb⟩ := sat_of t11
  obtain ⟨ps, hps, hpz⟩ := pat_of (F := F) (by omega) t17
  obtain ⟨da, dn, dc, q19, z19⟩ : ∃ da dn dc, v19 = .slice da dn dc ∧ dn ≤ 140737488351232 := by
    rcases tz_slice Tryd.underlying38 t19 with e | ⟨a, len, cap, gg, e, hgg, hlc, hcm, hby, hel⟩
    · simp only [List.cons.injEq, and_true] at e
      exact ⟨_, _, _, e, by omega⟩
    · simp only [List.cons.injEq, and_true] at e
      rw [bytes5, reach_eq] at hby
      exact ⟨_, _, _, e, by omega⟩
  obtain ⟨_, v5, e5, _, _, t5⟩ := hv 5 2 rfl
  obtain ⟨_, v6, e6, _, _, t6⟩ := hv 6 2 rfl
  obtain ⟨_, v7, e7, _, _, t7⟩ := hv 7 2 rfl
  obtain ⟨_, v8, e8, _, _, t8⟩ := hv 8 2 rfl
  obtain ⟨_, v18, e18, _, _, t18⟩ := hv 18 37 rfl
  obtain ⟨n5, d5, r5⟩ := i64_of t5 e5
  obtain ⟨n6, d6, r6⟩ := i64_of t6 e6
  obtain ⟨n7, d7, r7⟩ := i64_of t7 e7
  obtain ⟨n8, d8, r8⟩ := i64_of t8 e8
  obtain ⟨n18, d18, r18⟩ : ∃ n : Int, cs[18]? = some (.int .u8 n) ∧ 0 ≤ n ∧ n ≤ 255 := by
    obtain ⟨n, q, hw⟩ := tz_int u37 t18
    simp only [List.cons.injEq, and_true] at q
    rw [q] at e18
    exact ⟨n, e18, wf_u8 hw⟩
  subst q9 q10 q12 q13 q14 q15 q16 q19
  refine ⟨⟨cs, s9, s10, v11, lbs, s12, s13, s14, s15, s16, v17, ps, dn, da, dc⟩, rfl, hlen, all_scal fun i hi => ?_, e9, e10, e11, e12, e13, e14, e15, e16, e17, e19, z9, z10, z12, z13, z14, z15, z16, z19, hlb, hps, hpz, n5, n6, n7, n8, n18, d5, d6, d7, d8, d18, r5, r6, r7, r8, r18⟩
  obtain ⟨_, v, h1, h2, _⟩ := hv i ([24, 2, 25, 2, 28, 2, 2, 2, 2, 9, 9, 33, 9, 9, 9, 9, 9, 34, 37, 38][i]'(by simpa [hlen] using hi)) (by rw [List.getElem?_eq_getElem])
  exact ⟨v, h1, h2⟩

theorem scr_of {v : Value} (h : TZ Tryd.prog W reachBytes f 22 v.cells.toList) (hv : ∃ a n c, v = .slice a n c) : ∃ xs, Scr W f v xs := by
  obtain ⟨a0, n0, c0, rfl⟩ := hv
  rcases tz_slice Tryd.underlying22 h with e | ⟨a, len, cap, gg, e, hgg, hlc, hcm, hby, hel⟩
  · have : (Value.slice a0 n0 c0) = .slice none 0 0 := by simpa [Value.cells] using e
    exact ⟨[], by simp, .inl ⟨this, rfl⟩⟩
  · have e' : (Value.slice a0 n0 c0) = .slice (some a) len cap := by simpa [Value.cells] using e
    rw [cells40] at hel
    rw [bytes40, reach_eq] at hby
    obtain ⟨xs, hl, hxs⟩ := choose_list len (fun i (x : Rc) => RcOk W f x ∧ ∃ b o, a.add (i * 20) = ⟨b, o, none⟩ ∧ Cells W b o x.cs) (fun i hi => by
      obtain ⟨ds, h1, h2⟩ := hel i hi
      obtain ⟨b, o, e1, e2, e3⟩ := cells_in h1 (by omega)
      obtain ⟨x, e4, hx⟩ := rc_of (F := f) (by omega) h2
      exact ⟨x, hx, b, o, e1, by rw [e4]; exact e3⟩)
    refine ⟨xs, fun x hx => ?_, .inr ⟨a, cap, by rw [e', hl], by omega, fun j hj => (hxs j hj).2⟩⟩
    obtain ⟨j, hj, rfl⟩ := List.getElem_of_mem hx
    exact (hxs j hj).1
end
end Go.Proofs.Qxb6500894aDoor
