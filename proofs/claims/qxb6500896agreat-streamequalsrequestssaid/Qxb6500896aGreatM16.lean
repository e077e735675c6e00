import Derived.Test.Qxb6500896aGreatM15
namespace Go.Proofs.Qxb6500896aGreat
open Go.Sh Go.RowKit
set_option linter.unusedVariables false
set_option linter.unusedSimpArgs false

theorem eR_0 {p : Rp} (h : p.code = 0) : eR p = [0, p.op] ++ eB p := by unfold eR; rw [if_pos h]
theorem eB_9 {p : Rp} (h : p.op = 9) : eB p = uI p.now ++ uI (p.iss.length : Nat) ++ encIss p.iss ++ uI p.exd ++ uI p.ns ++ uI p.lp := by
  unfold eB
  rw [if_neg (by omega), if_neg (by omega), if_neg (by omega), if_pos h]
theorem lgo_1 {now : Int} {r : Rec} (h : LgO r) : LgO (sw1 now r) := by
  unfold sw1
  split
  · intro q; simp only at q; omega
  · exact h
theorem lgo_2 {now : Int} {r : Rec} (h : LgO r) : LgO (sw2 now r) := by
  unfold sw2
  split
  · intro q; simp only at q; omega
  · exact h
theorem cnt_t {p : Rec → Bool} {R : List Rec} {i : Nat} (hi : i < R.length) : (R.take (i + 1)).countP p = (R.take i).countP p + (if p R[i] then 1 else 0) := by
  rw [List.take_succ_eq_append_getElem hi, List.countP_append, List.countP_singleton]
theorem sw_set {f : Rec → Rec} {R : List Rec} {i : Nat} (hi : i < R.length) : ((R.take i).map f ++ R.drop i).set i (f R[i]) = (R.take (i + 1)).map f ++ R.drop (i + 1) := by
  have hl : ((R.take i).map f).length = i := by rw [List.length_map, List.length_take]; omega
  rw [List.drop_eq_getElem_cons hi, List.set_append, if_neg (by omega), hl, Nat.sub_self, List.set_cons_zero, List.take_succ_eq_append_getElem hi, List.map_append, List.append_assoc]
  rfl
theorem sw_at {f : Rec → Rec} {R : List Rec} {i : Nat} (hi : i < R.length) (h : i < ((R.take i).map f ++ R.drop i).length) : ((R.take i).map f ++ R.drop i)[i] = R[i] := by
  have hl : ((R.take i).map f).length = i := by rw [List.length_map, List.length_take]; omega
  rw [List.getElem_append_right (by omega)]
  simp only [hl, Nat.sub_self, List.getElem_drop, Nat.add_zero]
theorem sw_len {f : Rec → Rec} {R : List Rec} {i : Nat} (hi : i ≤ R.length) : ((R.take i).map f ++ R.drop i).length = R.length := by
  rw [List.length_append, List.length_map, List.length_take, List.length_drop]; omega
section
variable {O G O2 O' S F : Nat → Prop} {w w' w0 : World} {m c ib rb j : Nat} {now n1 : Int} {iv t3 t7 t8 t9 t72 t73 : Value} {s s2 : Ms} {K : Value → World → Prop} {X : World → Prop} {seq : Int} {B1 : List Value → World → Prop} {σ : Sg} {q : Rq} {R : List Rec} {L : List (List Int)} {is : List Int}
set_option maxHeartbeats 2000000 in
/-- the sweep -/
theorem sweepM_ok (h : Mw O G w0 O' w m ⟨n1, R, L⟩) (hs : Sl iC 1 w 3 (some ib) iv is) (hn : ¬ O' ib) (hr : ∀ r ∈ R, LgO r) (hR : R.length ≤ 1000)
    (hX : ∀ w', Mw O G w0 O' w' m ⟨n1, tSweep park n1 R, L⟩ → Sl iC 1 w' 3 (some ib) iv is → s94_p1 K (P m 0) iv (I (R.countP (isE n1) : Nat)) (I (R.countP (isS park n1) : Nat)) (I (R.countP (isL park n1) : Nat)) w') :
    s94_p11 K (P m 0) iv (I 0) (I 0) (I 0) (I (R.length : Nat)) (I 0) w := by
  unfold s94_p11
  refine loop_n R.length (fun i l w' => l = [P m 0, iv, I ((R.take i).countP (isE n1) : Nat), I ((R.take i).countP (isS park n1) : Nat), I ((R.take i).countP (isL park n1) : Nat), I (R.length : Nat), I (i : Nat)] ∧ Mw O G w0 O' w' m ⟨n1, (R.take i).map (swR park n1) ++ R.drop i, L⟩ ∧ Sl iC 1 w' 3 (some ib) iv is) ⟨rfl, h, hs⟩ ?_ ?_
  · rintro i l w1 hi ⟨rfl, h1, sl1⟩ B hB
    rw [s94_p11_Fe]
    unfold s94_p10
    simp only [dlt hi, e_lss, e_ift]
    unfold s94_p9
    have c1 : (R.take i).countP (isE n1) ≤ 1000 := Nat.le_trans List.countP_le_length (by rw [List.length_take]; omega)
    have c2 : (R.take i).countP (isS park n1) ≤ 1000 := Nat.le_trans List.countP_le_length (by rw [List.length_take]; omega)
    have c3 : (R.take i).countP (isL park n1) ≤ 1000 := Nat.le_trans List.countP_le_length (by rw [List.length_take]; omega)
    have hAl := sw_len (f := swR park n1) (R := R) (i := i) (by omega)
    have hiA : i < ((R.take i).map (swR park n1) ++ R.drop i).length := by omega
    have hAi := sw_at (f := swR park n1) hi hiA
    have hset := sw_set (f := swR park n1) hi
    obtain ⟨a1, a2, a3⟩ := sw_all (now := n1) (r := R[i])
    have lg := hr _ (List.getElem_mem hi)
    rw [cnt_t hi, cnt_t hi, cnt_t hi] at hB
    generalize (R.take i).map (swR park n1) ++ R.drop i = A at h1 hAl hiA hAi hset
    refine h1.mo.rec_ (s := ⟨n1, A, L⟩) hiA fun rb hq => ?_
    refine sw_8 hq hiA c1 fun w2 h2 hk2 => ?_
    simp only [hAi] at h2 ⊢
    have hi2 : i < (A.set i (sw1 n1 R[i])).length := by rw [List.length_set]; exact hiA
    have e2 : (A.set i (sw1 n1 R[i]))[i] = sw1 n1 R[i] := List.getElem_set_self _
    refine sw_6 h2 hi2 (by simp only [e2]; exact lgo_1 lg) c2 fun w3 h3 hk3 => ?_
    simp only [e2, List.set_set] at h3 ⊢
    have hi3 : i < (A.set i (sw2 n1 (sw1 n1 R[i]))).length := by rw [List.length_set]; exact hiA
    have e3 : (A.set i (sw2 n1 (sw1 n1 R[i])))[i] = sw2 n1 (sw1 n1 R[i]) := List.getElem_set_self _
    refine sw_4 h3 hi3 (by simp only [e3]; exact lgo_2 (lgo_1 lg)) c3 fun w4 h4 hk4 => ?_
    simp only [e3, List.set_set, a1, a2, a3, hset] at h4 ⊢
    unfold s94_p2
    simp only [e_add]
    rw [inc i (by omega)]
    have k14 : Kp O' w1 w4 := (hk2.trans hk3).trans hk4
    exact hB _ _ ⟨rfl, h1.ofQ h4 k14, sl1.kp k14 fun b e => by cases e; exact hn⟩
  · rintro l w1 ⟨rfl, h1, sl1⟩ B
    rw [s94_p11_Fe]
    unfold s94_p10
    simp only [dnlt, e_lss, e_iff]
    rw [List.take_length]
    rw [List.take_length, List.drop_length, List.append_nil] at h1
    exact hX w1 h1 sl1
theorem Mo.lnL {Y : Value → World → Prop} (h : Mo O G w m s) (hY : Y (I (s.ls.length : Nat)) w) : ld1 (P m 16) (fun t w => lnS t Y w) w := by
  obtain ⟨va, vt, rv, lv, rob, lob, its, ps, x, e1, e2⟩ := h
  have hil : ps.length = s.ls.length := by rw [← e2, List.length_map]
  refine ld1_r (v := lv) x.row rfl (x.lsl.ln ?_)
  rw [hil]
  exact hY
set_option maxHeartbeats 2000000 in
/-- the tick -/
theorem tickM_ok (h : Mw O G w0 O' w m σ.ms) (g : SGd park σ) (hq : q.op = 9) (hK : MK O G w0 m K (tkS park σ).ms (eR (tkR park q σ))) : cl Tryz.prog 94 #[P m 0] K w := by
  have hn := g.now
  have hmc : park.mc = 36 := rfl
  have hrp := rpn_tk (q := q) park_cv (by decide) g (by omega) (by omega)
  have hlen := g.len
  have hmb : park.mb = 26 := rfl
  rw [hmb] at hlen
  unfold tkS at hK
  unfold tkR at hK hrp
  rw [hmc] at hn hK hrp
  apply c94
  unfold s94_p21 s94_p20 s94_p20_d
  have kd : Kp Emp w (drw w) := kp_drw
  generalize drw w = w1 at kd ⊢
  have h1 := h.emp kd
  refine nk0 (fdp (h1.mo.nw ?_))
  refine nk0 (fdp (fdp (h1.mo.cf (n := 36) (fun _ _ _ _ => rfl) ?_)))
  simp only [e_eql]
  unfold s94_p19
  by_cases h36 : 36 ≤ σ.now
  · have e0 : (σ.ms.now == 36) = true := by rw [beq_iff_eq]; show σ.now = 36; omega
    simp only [e0, e_ift]
    rw [if_pos h36, if_pos h36] at hK
    exact no_ok (by decide) (h1.out hK)
  · have e0 : (σ.ms.now == 36) = false := by rw [beq_eq_false_iff_ne]; show σ.now ≠ 36; omega
    simp only [e0, e_iff]
    rw [if_neg h36] at hrp
    rw [if_neg h36, if_neg h36] at hK
    refine Sl.empty (f := iC) (k := 1) (e := 3) fun w2 sl2 hk2 hz2 => ?_
    have h2 := h1.emp hk2
    have s1 := h1.k.size
    refine nk0 (fdp (h2.mo.lnL ?_))
    have hls : σ.ls.length = 3 := g.li.len
    rw [show σ.ms.ls.length = 3 from hls]
    have hw : waits σ.rs ≤ σ.rs.length := List.countP_le_length
    refine tk_serve (s := σ.ms) (seq := σ.seq) (now := σ.now) ⟨h2, sl2, s1, fun q => by have := h1.mo.lt _ (.inl q); omega, g, by show 0 + waits σ.rs ≤ 26; omega⟩ fun w3 O3 ib3 iv3 h3 => ?_
    have gs := g.serve park_cv
    obtain ⟨isn, isl⟩ := serve_is park_cv g
    generalize hSe : tServe park σ.now σ.rs σ.ls = S at hK hrp gs isn isl
    replace h3 : Tk O G w0 O3 w3 m σ.now σ.seq ib3 iv3 S := hSe ▸ h3
    have hlenS := gs.len
    rw [hmb] at hlenS
    unfold s94_p12
    refine nk0 (fdp (h3.mw.mo.nw ?_))
    simp only [e_add]
    rw [wrap64_id (by omega) (by omega)]
    refine nk0 (fdp (h3.mw.mo.setNow fun w4 h4 hk4 hz4 => ?_))
    have m4 := h3.mw.upd h4 hk4 (fun _ q => q) fun _ q => .inl q
    have sl4 := h3.sl.kp hk4 fun b e => by cases e; exact h3.no
    refine nk0 (fdp (m4.mo.len ?_))
    refine sweepM_ok (R := S.rs) m4 sl4 h3.no gs.lgo (by omega) fun w5 h5 sl5 => ?_
    unfold s94_p1
    refine nk0 (fdp (h5.mo.nw ?_))
    refine sl5.ln ?_
    have ilen := isPr_len S.iss
    have hwS : S.iss.length ≤ 26 := by have := h3.n; omega
    simp only [e_quo]
    refine ⟨by decide, ?_⟩
    have e2 : (((isPr S.iss).length : Nat) : Int).tdiv 2 = ((S.iss.length : Nat) : Int) := by
      rw [Int.tdiv_eq_ediv_of_nonneg (by omega)]; omega
    rw [e2, wrap64_id (by omega) (by omega)]
    refine bsq_r (l := [I (σ.now + 1), I (S.iss.length : Nat)]) rfl fun w6 r6 hk6 hz6 => ?_
    have sl6 : Sl iC 1 w6 3 (some w5.heap.size) (.slice (some ⟨w5.heap.size, 0, none⟩) 2 2) [σ.now + 1, ((S.iss.length : Nat) : Int)] := ⟨2, [], rfl, Nat.le_refl _, rfl, by rw [List.append_nil]; exact r6⟩
    refine Sl.app2 iC_len rfl (fun _ _ => rfl) sl6 (sl5.kp' hk6) (by simp only [List.length_cons, List.length_nil]; omega) (by simp only [List.length_cons, List.length_nil]; omega) fun w7 v7 ob7 sl7 hk7 ho7 => ?_
    have hb7 : ∃ b7, ob7 = some b7 ∧ w5.heap.size ≤ b7 := by
      rcases ho7 with q | ⟨c, q, hc⟩
      · exact ⟨_, q, Nat.le_refl _⟩
      · exact ⟨c, q, by omega⟩
    obtain ⟨b7, rfl, hb7⟩ := hb7
    have k57 : Kp Emp w5 w7 := hk6.then hk7 fun b hb e => by cases e; omega
    refine bsq_r (l := [I (S.rs.countP (isE (σ.now + 1)) : Nat), I (S.rs.countP (isS park (σ.now + 1)) : Nat), I (S.rs.countP (isL park (σ.now + 1)) : Nat)]) rfl fun w8 r8 hk8 hz8 => ?_
    have sl8 : Sl iC 1 w8 3 (some w7.heap.size) (.slice (some ⟨w7.heap.size, 0, none⟩) 3 3) [((S.rs.countP (isE (σ.now + 1)) : Nat) : Int), ((S.rs.countP (isS park (σ.now + 1)) : Nat) : Int), ((S.rs.countP (isL park (σ.now + 1)) : Nat) : Int)] := ⟨3, [], rfl, Nat.le_refl _, rfl, by rw [List.append_nil]; exact r8⟩
    refine Sl.app2 iC_len rfl (fun _ _ => rfl) (sl7.kp' hk8) sl8 (by simp only [List.length_append, List.length_cons, List.length_nil]; omega) (by simp only [List.length_append, List.length_cons, List.length_nil]; omega) fun w9 v9 ob9 sl9 hk9 ho9 => ?_
    have k59 : Kp Emp w5 w9 := (k57.trans hk8).then hk9 fun b hb e => by cases e; omega
    have h9 := h5.emp k59
    refine yes_ok (F := fun b => b < w9.heap.size) (sl9.ar iC_len (by simp only [List.length_append, List.length_cons, List.length_nil]; omega) fun b e => by subst e; exact sl9.lt) (fun b q => q) (fun x hx => ?_) (by simp only [List.length_append, List.length_cons, List.length_nil]; omega) (h9.out ?_)
    · rcases List.mem_append.1 hx with hx | hx
      · rcases List.mem_append.1 hx with hx | hx
        · rcases List.mem_cons.1 hx with hx | hx
          · rw [hx]; exact ⟨by omega, by omega⟩
          · rw [List.mem_singleton.1 hx]; exact ⟨by omega, by omega⟩
        · unfold isPr at hx
          obtain ⟨y, hy, hx⟩ := List.mem_flatMap.1 hx
          rcases List.mem_cons.1 hx with hx | hx
          · rw [hx]; exact (isn y hy).1
          · rw [List.mem_singleton.1 hx]; exact (isn y hy).2
      · rcases List.mem_cons.1 hx with hx | hx
        · rw [hx]; exact hrp.exd
        · rcases List.mem_cons.1 hx with hx | hx
          · rw [hx]; exact hrp.ns
          · rw [List.mem_singleton.1 hx]; exact hrp.lp
    · have e : ([0, 9] ++ (([σ.now + 1, ((S.iss.length : Nat) : Int)] ++ isPr S.iss) ++ [((S.rs.countP (isE (σ.now + 1)) : Nat) : Int), ((S.rs.countP (isS park (σ.now + 1)) : Nat) : Int), ((S.rs.countP (isL park (σ.now + 1)) : Nat) : Int)]).flatMap uI : List Int) = eR { rp0 with op := q.op, now := σ.now + 1, iss := S.iss, exd := (S.rs.countP (isE (σ.now + 1)) : Nat), ns := (S.rs.countP (isS park (σ.now + 1)) : Nat), lp := (S.rs.countP (isL park (σ.now + 1)) : Nat) } := by
        rw [List.flatMap_append, List.flatMap_append, isPr_enc]
        refine Eq.symm (Eq.trans (eR_0 rfl) (Eq.trans (congrArg _ (eB_9 hq)) ?_))
        show [0, q.op] ++ _ = _
        rw [hq]
        simp only [List.flatMap_cons, List.flatMap_nil, List.append_nil, List.append_assoc]
      rw [e]
      exact hK
end
end Go.Proofs.Qxb6500896aGreat
