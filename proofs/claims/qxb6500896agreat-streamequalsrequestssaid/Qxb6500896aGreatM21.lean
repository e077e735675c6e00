import Derived.Test.Qxb6500896aGreatM20
namespace Go.Proofs.Qxb6500896aGreat
open Go.Sh Go.RowKit
set_option linter.unusedVariables false
set_option linter.unusedSimpArgs false

section
variable {O G O2 O' S F : Nat → Prop} {w w' w0 w1 : World} {m c ib rb lb a j : Nat} {now n : Int} {va vt rv lv v1 : Value} {rob lob ob1 : Option Nat} {its : List (Rec × Value)} {ps : List Lm} {s s2 : Ms} {K : Value → World → Prop} {X : World → Prop} {seq : Int} {σ : Sg} {q : Rq} {id st op : Int} {ls : List Leg}
theorem qw_i {J : World → Prop} {X : (Value → World → Prop) → World → Prop} {k : Value → Prop} {v : Value} (hx : ∀ w, J w → X (fun v' w' => v' = v ∧ w' = w) w) (h : k v) : Go.Sh.R.qw J X k := ⟨v, hx, h⟩
theorem Mr.ats {Y : Value → World → Prop} (h : Mr F w m s) (hY : Y (I (3 : Nat)) w) : ld1 (P m 0) (fun t w => lnS t Y w) w := by
  obtain ⟨va, vt, rv, lv, rm, ha, _, _, _⟩ := h.parts
  refine ld1_r (v := va) rm rfl (ha.ln ?_)
  exact hY
/-- the length of a line -/
theorem Mr.lln {Y : Value → World → Prop} (h : Mr F w m s) (hl : s.ls.length = 3) (ha : a < 3) (hY : Y (I ((lnOf s.ls (a : Nat)).length : Nat)) w) : ld1 (P m 16) (fun t _ => ixs 1 t (I (a : Nat)) (fun t _ => ld1 t (fun t _ => lnS t Y w) w) w) w := by
  obtain ⟨va, vt, rv, lv, rm, _, _, _, hlr⟩ := h.parts
  obtain ⟨vals, v1, v2, v3⟩ := hlr
  have hav : a < vals.length := by omega
  have hal : a < s.ls.length := by omega
  have hline := v3 a hav hal
  rw [lnOf_at hal] at hY
  refine ld1_r (v := lv) rm rfl ?_
  refine v1.ix hav fun b o _ cc => ?_
  refine cc.ld0 (v := vals[a]) rfl ?_
  exact hline.ln hY
set_option maxHeartbeats 2000000 in
/-- the new id at the line's end -/
theorem join_3 (h : Mw O G w0 O' w m s) (hl : s.ls.length = 3) (hll : ∀ l ∈ s.ls, l.length ≤ 1000) (hr : s.rs.length ≤ 1000) (ha : a < 3)
    (hK : MK O G w0 m K ⟨s.now, s.rs, s.ls.set a (lnOf s.ls (a : Nat) ++ [((s.rs.length : Nat) : Int)])⟩ ([0, 6] ++ (uI ((s.rs.length : Nat) : Int) ++ uI (((lnOf s.ls (a : Nat)).length + 1 : Nat) : Int)))) : s92_p3 K (P m 0) (I (a : Nat)) w := by
  unfold s92_p3
  have kd : Kp Emp w (drw w) := kp_drw
  generalize drw w = w1 at kd ⊢
  have h1 := h.emp kd
  obtain ⟨va, vt, rv, lv, rob, lob, its, ps, x, e1, e2⟩ := h1.mo
  have hil : its.length = s.rs.length := by rw [← e1, List.length_map]
  have hpl : ps.length = s.ls.length := by rw [← e2, List.length_map]
  have hal : a < s.ls.length := by omega
  have hap : a < ps.length := by omega
  have hls := x.lsl
  cases hlob : lob with
  | none => rw [hlob] at hls; obtain ⟨_, q⟩ := hls; rw [q] at hap; simp at hap
  | some lb =>
    subst hlob
    obtain ⟨n1, n2, n3, n4, n5⟩ := x.nm
    have hpa := List.getElem_mem hap
    refine ⟨fun w' => Row w' m 119 (mrow va vt rv lv s.now) ∧ Sl lmC 1 w' 79 (some lb) lv ps, ⟨x.row, hls⟩, ?_⟩
    unfold s92_p3_d
    refine nk0 (fdp (qw_i (v := lv) (fun w' hJ => ld1_r hJ.1 rfl ⟨rfl, rfl⟩) ?_))
    refine nk0 (fdp (qw_i (v := lv) (fun w' hJ => ld1_r hJ.1 rfl ⟨rfl, rfl⟩) ?_))
    refine sl_ixp hls hap ?_
    refine qw_i (v := ps[a].val) (fun w' hJ => sl_cell (j := 0) lmC_len hJ.2 hap (by decide) (x := ps[a].val) rfl ⟨rfl, rfl⟩) ?_
    refine nk0 (fdp (qw_i (v := rv) (fun w' hJ => ld1_r hJ.1 rfl ⟨rfl, rfl⟩) ?_))
    refine x.rsl.ln ?_
    rw [hil]
    refine sl_ixp hls hap ?_
    refine bsq_r (l := [I (s.rs.length : Nat)]) rfl fun w2 r2 hk2 hz2 => ?_
    have x2 := x.kp (S := Emp) hk2 fun b q => q.elim
    refine ⟨⟨x2.row, x2.lsl⟩, ?_⟩
    have sl2 : Sl iC 1 w2 3 (some w1.heap.size) (.slice (some ⟨w1.heap.size, 0, none⟩) 1 1) [((s.rs.length : Nat) : Int)] := ⟨1, [], rfl, Nat.le_refl _, rfl, by rw [List.append_nil]; exact r2⟩
    have eids : ps[a].ids = s.ls[a] := by
      have : (ps.map Lm.ids)[a]? = s.ls[a]? := by rw [e2]
      rw [List.getElem?_map, List.getElem?_eq_getElem hap, List.getElem?_eq_getElem hal] at this
      exact Option.some.inj this
    have hl1 := hll _ (List.getElem_mem hal)
    have hlen : ps[a].ids.length ≤ 1000 := by rw [eids]; exact hl1
    have eln := lnOf_at hal
    refine Sl.app2 iC_len rfl (fun _ _ => rfl) (x2.line _ hpa) sl2 (by simp only [List.length_singleton]; omega) (by simp only [List.length_singleton]; omega) fun w3 v3 ob3 sl3 hk3 ho3 => ?_
    refine ⟨⟨hk3.row x2.row fun q => n3 _ hpa q, x2.lsl.kp hk3 fun b e r => (n5 _ hpa b r).2 e⟩, ?_⟩
    have m2 := h1.emp hk2
    refine x2.appLine hap sl3 hk3 ho3 fun w4 x4 hk4 hz4 => ?_
    have s1 := h1.k.size
    have s2 := hk2.size
    have m4 : Mw O G w0 (fun b => O' b ∨ Nb w2 w4 b) w4 m ⟨s.now, s.rs, s.ls.set a (lnOf s.ls (a : Nat) ++ [((s.rs.length : Nat) : Int)])⟩ := by
      refine m2.upd ⟨va, vt, rv, lv, rob, some lb, its, _, x4, e1, ?_⟩ hk4 (fun b q => .inl q) fun b q => q.imp id fun q => ⟨by have := q.1; omega, q.2⟩
      show (ps.set a _).map Lm.ids = _
      rw [List.map_set, e2, eln, eids]
    unfold s92_p2 s92_p2_d
    have kd4 : Kp Emp w4 (drw w4) := kp_drw
    generalize drw w4 = w5 at kd4 ⊢
    have m5 := m4.emp kd4
    have hls5 : (s.ls.set a (lnOf s.ls (a : Nat) ++ [((s.rs.length : Nat) : Int)])).length = 3 := by rw [List.length_set]; exact hl
    have e5 : (lnOf (s.ls.set a (lnOf s.ls (a : Nat) ++ [((s.rs.length : Nat) : Int)])) (a : Nat)).length = (lnOf s.ls (a : Nat)).length + 1 := by
      rw [lnOf_at (by omega), List.getElem_set_self, List.length_append, List.length_singleton]
    have mr5 := m5.mo.mr hr (by show (s.ls.set a _).length ≤ 1000; rw [List.length_set]; omega) fun l hl' => by
      rcases List.mem_or_eq_of_mem_set hl' with q | q
      · have := hll l q; omega
      · rw [q, List.length_append, eln]; have := hl1; simp only [List.length_singleton]; omega
    obtain ⟨va', vt', rv', lv', rob', lob', its', ps', x', e1', e2'⟩ := m5.mo
    have hil' : its'.length = s.rs.length := by rw [← show its'.map (·.1) = s.rs from e1', List.length_map]
    refine nk0 (fdp (ld1_r (v := rv') x'.row rfl (x'.rsl.ln ?_)))
    rw [hil']
    refine nk0 (fdp (mr5.lln hls5 ha ?_))
    simp only [e5]
    unfold s92_p1
    exact yes_2 (op := 6) m5 ⟨by omega, by omega⟩ ⟨by omega, by rw [eln]; omega⟩ hK
set_option maxHeartbeats 2000000 in
theorem joinM_ok (h : Mw O G w0 O' w m σ.ms) (g : SGd park σ) (hq : q.op = 6) (ha0 : 0 ≤ q.at') (hc : 0 ≤ q.cl) (hs : 0 ≤ q.sz) (hK : MK O G w0 m K (chM q σ).1.ms (eR (chM q σ).2)) : cl Tryz.prog 92 #[P m 0, I q.at', I q.cl, I q.sz] K w := by
  have hm : Mk σ.ms := MG.mk ⟨_, g⟩
  have hlen := g.len
  have hmb : park.mb = 26 := rfl
  rw [hmb] at hlen
  have h3 : park.ats.length = 3 := rfl
  have ev : valid park σ.now q = (if hasA park q.at' = true then vParty park q.cl q.sz else 13) := by
    unfold valid; rw [if_neg (by omega), if_neg (by omega), if_pos (by omega)]
  unfold chM at hK
  rw [ev] at hK
  apply c92
  unfold s92_p8
  refine nk0 (fdp (fdp ((h.mr g).ats ?_)))
  simp only [e_geq]
  by_cases ha : q.at' < 3
  case neg =>
    have e0 : decide (((3 : Nat) : Int) ≤ q.at') = true := decide_eq_true (by omega)
    simp only [e0, e_ift]
    have eh : hasA park q.at' = false := by unfold hasA; rw [h3, decide_eq_false (show ¬ q.at' < ((3 : Nat) : Int) by omega), Bool.and_false]
    rw [eh] at hK
    simp only [show (false = true) = False by simp, if_false, show ¬ ((13 : Int) = 0) by decide] at hK
    rw [eR_rf (by decide)] at hK
    exact no_ok (by decide) (h.out hK)
  have e0 : decide (((3 : Nat) : Int) ≤ q.at') = false := decide_eq_false (by omega)
  simp only [e0, e_iff]
  have eh : hasA park q.at' = true := by unfold hasA; rw [h3, decide_eq_true ha0, decide_eq_true (show q.at' < ((3 : Nat) : Int) by omega)]; rfl
  rw [if_pos eh] at hK
  refine party_ok (h.mr g) hc hs ?_
  simp only [e_neq]
  by_cases hp : vParty park q.cl q.sz = 0
  case neg =>
    have e1 : (vParty park q.cl q.sz != 0) = true := bne_iff_ne.2 hp
    simp only [e1, e_ift]
    rw [if_neg hp, eR_rf hp] at hK
    exact no_ok vP_rng (h.out hK)
  have e1 : (vParty park q.cl q.sz != 0) = false := by rw [hp]; rfl
  simp only [e1, e_iff]
  rw [if_pos hp] at hK
  obtain ⟨a, ea⟩ : ∃ a : Nat, q.at' = (a : Int) := ⟨q.at'.toNat, by omega⟩
  have ha3 : a < 3 := by omega
  rw [ea]
  unfold apS at hK
  rw [if_neg (by omega), if_neg (by omega), if_neg (by omega), if_neg (by omega), if_neg (by omega), if_pos hq, ea] at hK
  unfold tJoin joR tEnroll at hK
  have hmx : park.mx = 4 := rfl
  rw [hmx, hmb] at hK
  unfold s92_p7 s92_p7_d
  have kd : Kp Emp w (drw w) := kp_drw
  generalize drw w = w1 at kd ⊢
  have h1 := h.emp kd
  refine nk0 (fdp ((h1.mr g).lln hm.ln ha3 ?_))
  refine nk0 (fdp (fdp (h1.mo.cf (n := 4) (fun _ _ _ _ => rfl) ?_)))
  simp only [e_geq]
  unfold s92_p6
  by_cases hl4 : 4 ≤ (((lnOf σ.ls (a : Nat)).length : Nat) : Int)
  · have e2 : decide (4 ≤ (((lnOf σ.ms.ls (a : Nat)).length : Nat) : Int)) = true := decide_eq_true hl4
    simp only [e2, e_ift]
    simp only [if_pos hl4, show ¬ ((10 : Int) = 0) by decide, if_false] at hK
    rw [eR_rf (by decide)] at hK
    exact no_ok (by decide) (h1.out hK)
  have e2 : decide (4 ≤ (((lnOf σ.ms.ls (a : Nat)).length : Nat) : Int)) = false := decide_eq_false hl4
  simp only [e2, e_iff]
  simp only [if_neg hl4] at hK
  unfold s92_p5 s92_p5_d
  have kd2 : Kp Emp w1 (drw w1) := kp_drw
  generalize drw w1 = w2 at kd2 ⊢
  have h2 := h1.emp kd2
  refine nk0 (fdp ?_)
  obtain ⟨va, vt, rv, lv', rob, lob, its, pps, x, ee1, ee2⟩ := h2.mo
  have hil : its.length = σ.rs.length := by rw [← show its.map (·.1) = σ.rs from ee1, List.length_map]
  refine ld1_r (v := rv) x.row rfl (x.rsl.ln ?_)
  rw [hil]
  refine nk0 (fdp (fdp (h2.mo.cf (n := 26) (fun _ _ _ _ => rfl) ?_)))
  clear x ee1 ee2 hil
  simp only [e_geq]
  unfold s92_p4
  by_cases hb : 26 ≤ ((σ.rs.length : Nat) : Int)
  · have e3 : decide (26 ≤ ((σ.rs.length : Nat) : Int)) = true := decide_eq_true hb
    simp only [e3, e_ift]
    simp only [if_pos hb, show ¬ ((9 : Int) = 0) by decide, if_false] at hK
    rw [eR_rf (by decide)] at hK
    exact no_ok (by decide) (h2.out hK)
  have e3 : decide (26 ≤ ((σ.rs.length : Nat) : Int)) = false := decide_eq_false hb
  simp only [e3, e_iff]
  simp only [if_neg hb, if_true] at hK
  simp only [e_add]
  rw [inc a (by omega)]
  refine bdq_r (l := rC (⟨0, 7, q.cl, q.sz, ((a + 1 : Nat) : Int), 0, []⟩, nilS)) rfl ?_
  refine with_ok (F := Emp) (r := ⟨0, 7, q.cl, q.sz, ((a + 1 : Nat) : Int), 0, []⟩) h2.mo hm Ar.nil (fun b q => q.elim) fun w3 c h3' hk3 => ?_
  have o2 : ∀ b, O' b → b < w2.heap.size := fun b q => h2.mo.lt b (.inl q)
  have s2 := h2.k.size
  refine (h2.emp hk3).copy h3' (fun b q r => ?_) (fun b q => ?_) fun w4 h4 hk4 hz4 => ?_
  · rcases q with q | q
    · exact q
    · have := q.1; have := o2 b r; omega
  · rcases q with q | q
    · exact q.elim
    · exact ⟨by have := q.1; omega, q.2⟩
  refine join_3 h4 hm.ln hm.ll (by show (σ.rs ++ [_]).length ≤ 1000; rw [List.length_append, List.length_singleton]; omega) ha3 ?_
  simp only [List.length_append, List.length_singleton]
  rw [eR_6] at hK
  · exact hK
  · rfl
  · exact hq
end
end Go.Proofs.Qxb6500896aGreat
