import Derived.Test.Qxb6500896aGreatM5
namespace Go.Proofs.Qxb6500896aGreat
open Go.Sh Go.RowKit
set_option linter.unusedVariables false
set_option linter.unusedSimpArgs false

/-- a model whose numbers are small -/
structure Mk (s : Ms) : Prop where
  now : 0 ≤ s.now ∧ s.now ≤ 1000
  vk : Vk s.rs
  ln : s.ls.length = 3
  ll : ∀ l ∈ s.ls, l.length ≤ 1000
section
variable {O G O' S F : Nat → Prop} {w w' : World} {m : Nat} {now : Int} {va vt rv lv : Value} {rob lob : Option Nat} {its : List (Rec × Value)} {ps : List Lm} {s : Ms} {K : Value → World → Prop}
theorem Mx.sup (h : Mx O G w m now va vt rv lv rob lob its ps) (hO : ∀ b, O b → O' b) (hg : ∀ b, G b → ¬ O' b) (hlt : ∀ b, O' b → b < w.heap.size) : Mx O' G w m now va vt rv lv rob lob its ps :=
  ⟨h.row, h.cg, h.rsl, h.lsl, h.line, h.pw, fun b q => hO b (h.own b q), fun p hp => (h.legs p hp).mono fun b q => ⟨hO b q.1, q.2⟩, hg, fun b q => q.elim (hlt b) fun q => h.lt b (.inr q)⟩
set_option maxHeartbeats 4000000 in
theorem mclone_ok (h : Mo O G w m s) (hm : Mk s) (hK : ∀ w' c, Mo (Nb w w') G w' c s → Kp Emp w w' → K (P c 0) w') : cl Tryz.prog 149 #[P m 0] K w := by
  have hlt := h.lt
  have hvk := hm.vk
  have hlen := hvk.len
  obtain ⟨va, vt, rv, lv, rob, lob, its, ps, x, e1, e2⟩ := h
  have i1 : its.length = s.rs.length := by rw [← e1, List.length_map]
  have i2 : ps.length = s.ls.length := by rw [← e2, List.length_map]
  have hln := hm.ln
  have hro := x.ro (by omega)
  have hli := x.lines (by omega) fun p hp => by have := hm.ll _ (by rw [← e2]; exact List.mem_map_of_mem hp); omega
  have Gl : ∀ {w1 : World} b, G b → ¬ Nb w w1 b := fun {w1} b q r => by have := hlt b (.inr q); have := r.1; omega
  apply c149
  unfold s149_p15 s149_p14 s149_p14_d
  have kd : Kp Emp w (drw w) := kp_drw
  have szd : (drw w).heap.size = w.heap.size := rfl
  generalize drw w = wd at kd szd ⊢
  have rmd := kd.row' x.row
  refine nk0 (fdp ?_)
  refine ldn_r rmd (show 0 + 14 ≤ 17 by decide) ?_
  refine nk0 (fdp (ld1_r (v := I s.now) rmd rfl ?_))
  refine bdq_r (l := mrow va vt nilS nilS s.now) rfl ?_
  refine nw_r fun w1 r1 hk1 hz1 => ?_
  replace r1 : Row w1 wd.heap.size 119 (mrow va vt nilS nilS s.now) := r1
  have k01 := kd.trans hk1
  generalize hc : wd.heap.size = c at r1 hz1
  have hc0 : w.heap.size = c := by omega
  have x1 : Mx (Nb w w1) G w1 c s.now va vt nilS nilS none none [] [] := by
    refine ⟨r1, x.cg.kp' k01, ⟨rfl, rfl⟩, ⟨rfl, rfl⟩, (fun p hp => by cases hp), List.Pairwise.nil, fun b q => ?_, (fun p hp => by cases hp), Gl, fun b q => ?_⟩
    · rcases q with q | q | q | ⟨p, hp, _⟩
      · exact ⟨by omega, by omega⟩
      · cases q
      · cases q
      · cases hp
    · rcases q with q | q
      · exact q.2
      · have := hlt b (.inr q); omega
  unfold s149_p13
  refine nk0 (fdp (ld1_r (v := rv) (k01.row' x.row) rfl ?_))
  refine hro.ln ?_
  rw [List.length_map]
  obtain ⟨its', f1, hA, f4⟩ := hro
  have hA2 := x.rsl.ar (F := O) rC_len (by omega) fun b e => x.own b (.inr (.inl e))
  clear f1 hA f4 its'
  unfold s149_p12
  refine loop_n its.length (fun i l w' => ∃ rv' rob' its', l = [P m 0, P c 0, rv, I (its.length : Nat), I (i : Nat)] ∧ Mx (Nb w w') G w' c s.now va vt rv' nilS rob' none its' [] ∧ its'.map (·.1) = s.rs.take i ∧ Kp Emp w w') ⟨nilS, none, [], rfl, x1, rfl, k01⟩ ?_ ?_
  · rintro i l w2 hi ⟨rv2, rob2, its2, rfl, x2, m2, k2⟩ B hB
    rw [s149_p12_Fe]
    unfold s149_p11
    simp only [dlt hi, e_lss, e_ift]
    unfold s149_p10
    have hlg := x.legs _ (List.getElem_mem hi)
    have hmem : its[i].1 ∈ s.rs := by rw [← e1]; exact List.mem_map_of_mem (List.getElem_mem hi)
    have hll := (hvk.rb _ hmem).ll
    have l2 : its2.length ≤ 1000 := by
      have : its2.length = (s.rs.take i).length := by rw [← m2, List.length_map]
      rw [this, List.length_take]; omega
    refine each_r rfl (hA2.kp' k2) hi (rC_len _) (rC_sc hlg.scal) fun w3 r3 hk3 hz3 => ?_
    have ei : its[i].1 = (s.rs)[i]'(by omega) := by
      have : (its.map (·.1))[i]? = s.rs[i]? := by rw [e1]
      rw [List.getElem?_map, List.getElem?_eq_getElem hi, List.getElem?_eq_getElem (by omega)] at this
      exact Option.some.inj this
    generalize its[i] = p at hlg r3 hll ei
    refine Sl.empty (f := lC) (k := 2) (e := 88) fun w4 sl4 hk4 hz4 => ?_
    have k34 := hk3.trans hk4
    refine fdp (ld1_r (v := p.2) (hk4.row' r3) rfl ?_)
    have hlg4 := hlg.kp' (k2.trans k34)
    refine Sl.app3 (f := lC) (k := 2) lC_len rfl (fun _ _ => lC_sc _) sl4 (hlg4.rds lC_len) (by simp only [List.length_nil]; omega) (by simp only [List.length_nil]; omega) fun w5 v5 ob5 sl5 hk5 ho5 => ?_
    rw [List.nil_append] at sl5
    have s5 := hk5.size
    obtain ⟨lb, hlb, hlb0⟩ : ∃ lb, ob5 = some lb ∧ w3.heap.size ≤ lb := by
      rcases ho5 with q | ⟨c', q, hc'⟩
      · exact ⟨_, q, Nat.le_refl _⟩
      · exact ⟨c', q, by omega⟩
    subst hlb
    have lblt := sl5.lt
    have k25 : Kp Emp w2 w5 := k34.then hk5 fun b hb e => by cases e; omega
    have r5 : Row w5 w2.heap.size 85 (rC p) := hk5.row (hk4.row' r3) fun e => by have := Option.some.inj e; omega
    refine fdp ?_
    refine st1_r r5 (show 6 < 7 by decide) (sl_sc sl5) fun w6 r6 hk6 hz6 => ?_
    replace r6 : Row w6 w2.heap.size 85 (rC (p.1, v5)) := r6
    have k26 : Kp Emp w2 w6 := k25.then hk6 fun b hb (q : b = _) => by omega
    unfold s149_p9 s149_p9_d
    have kd6 : Kp Emp w6 (drw w6) := kp_drw
    have szd6 : (drw w6).heap.size = w6.heap.size := rfl
    generalize drw w6 = w7 at kd6 szd6 ⊢
    have k27 := k26.trans kd6
    have k07 := k2.trans k27
    have x7 : Mx (Nb w w7) G w7 c s.now va vt rv2 nilS rob2 none its2 [] := (x2.grow k27).sup (fun b q => q.elim (fun q => ⟨q.1, by have := q.2; have := k27.size; omega⟩) fun q => ⟨by have := q.1; have := k2.size; omega, q.2⟩) Gl fun b q => q.2
    refine nk0 (fdp (ld1_r (v := rv2) x7.row rfl ?_))
    refine ldn_r (kd6.row' r6) (show 0 + 7 ≤ 7 by decide) ?_
    refine nk0 (fdp ?_)
    have sl7 : Ar lC 2 (fun b => Nb w w7 b ∧ ¬ Bm c rob2 none [] b) w7 v5 p.1.legs := by
      have a5 : Ar lC 2 (fun b => b = lb) w5 v5 p.1.legs := sl5.ar lC_len (by omega) fun b e => by cases e; rfl
      have k57 : Kp (fun b => b = w2.heap.size) w5 w7 := hk6.trans kd6.none
      have s57 := k57.size
      have s02 := k2.size
      refine (a5.kp k57 fun b (e : b = lb) (q : b = _) => by omega).mono fun b (e : b = lb) => ⟨⟨by omega, by omega⟩, fun q => ?_⟩
      rcases q with q | q | q | ⟨p', hp', _⟩
      · have := x2.row.lt; omega
      · have := x2.lt b (.inl (x2.own b (.inr (.inl q)))); omega
      · cases q
      · cases hp'
    refine x7.addRec (p := (p.1, v5)) sl7 l2 fun w8 rv8 rob8 x8 hk8 => ?_
    have s8 := hk8.size
    have s07 := k07.size
    unfold s149_p8
    simp only [e_add]
    rw [inc i (by omega)]
    refine hB _ _ ⟨rv8, rob8, its2 ++ [(p.1, v5)], rfl, x8.sup (fun b q => q.elim (fun q => ⟨q.1, by have := q.2; omega⟩) fun q => ⟨by have := q.1; omega, q.2⟩) Gl (fun b q => q.2), ?_, k07.then hk8 fun b hb q => by have := (x7.own b q).1; omega⟩
    rw [List.map_append, m2, List.take_succ_eq_append_getElem (by omega : i < s.rs.length)]
    show s.rs.take i ++ [p.1] = _
    rw [ei]
  · rintro l w2 ⟨rv2, rob2, its2, rfl, x2, m2, k2⟩ B
    rw [s149_p12_Fe]
    unfold s149_p11
    simp only [dnlt, e_lss, e_iff]
    rw [List.take_of_length_le (by omega)] at m2
    unfold s149_p7
    refine nk0 (fdp (ld1_r (v := lv) (k2.row' x.row) rfl ?_))
    obtain ⟨vals, g1, g2, g3⟩ := hli
    rw [List.length_map] at g2
    refine g1.ln ?_
    unfold s149_p6
    refine loop_n vals.length (fun i l w' => ∃ lv' lob' ps', l = [P c 0, lv, I (vals.length : Nat), I (i : Nat)] ∧ Mx (Nb w w') G w' c s.now va vt rv2 lv' rob2 lob' its2 ps' ∧ ps'.map Lm.ids = s.ls.take i ∧ Kp Emp w w') ⟨nilS, none, [], rfl, x2, rfl, k2⟩ ?_ ?_
    · rintro i l w3 hi ⟨lv3, lob3, ps3, rfl, x3, m3, k3⟩ B hB
      rw [s149_p6_Fe]
      unfold s149_p5
      simp only [dlt hi, e_lss, e_ift]
      unfold s149_p4
      refine (g1.kp' k3).ix hi fun b o _ cc => ?_
      refine cc.ld0 (v := vals[i]) rfl ?_
      have hip : i < (ps.map Lm.ids).length := by rw [List.length_map]; omega
      have hsrc := (g3 i hi hip).kp' k3
      have eids : (ps.map Lm.ids)[i] = s.ls[i]'(by omega) := by simp only [e2]
      unfold s149_p3 s149_p3_d
      have kd3 : Kp Emp w3 (drw w3) := kp_drw
      generalize drw w3 = w4 at kd3 ⊢
      have k04 := k3.trans kd3
      have x4 : Mx (Nb w w4) G w4 c s.now va vt rv2 lv3 rob2 lob3 its2 ps3 := (x3.grow kd3).sup (fun b q => q.elim (fun q => ⟨q.1, by have := q.2; have := kd3.size; omega⟩) fun q => ⟨by have := q.1; have := k3.size; omega, q.2⟩) Gl fun b q => q.2
      refine nk0 (fdp (ld1_r (v := lv3) x4.row rfl ?_))
      refine nk0 (fdp ?_)
      have l3 : ps3.length ≤ 1000 := by
        have : ps3.length = (s.ls.take i).length := by rw [← m3, List.length_map]
        rw [this, List.length_take]; omega
      have hll := hm.ll _ (List.getElem_mem (show i < s.ls.length by omega))
      refine x4.addLine (F := O) (hsrc.kp' kd3) (fun b q => by have := hlt b (.inl q); have := k04.size; omega) (by rw [eids]; omega) l3 fun w5 lv5 lob5 p5 hp5 x5 hk5 => ?_
      have s5 := hk5.size
      have s04 := k04.size
      unfold s149_p2
      simp only [e_add]
      rw [inc i (by omega)]
      refine hB _ _ ⟨lv5, lob5, ps3 ++ [p5], rfl, x5.sup (fun b q => q.elim (fun q => ⟨q.1, by have := q.2; omega⟩) fun q => ⟨by have := q.1; omega, q.2⟩) Gl (fun b q => q.2), ?_, k04.then hk5 fun b hb q => by have := (x4.own b q).1; omega⟩
      rw [List.map_append, m3, List.take_succ_eq_append_getElem (by omega : i < s.ls.length)]
      show s.ls.take i ++ [p5.ids] = _
      rw [hp5, eids]
    · rintro l w3 ⟨lv3, lob3, ps3, rfl, x3, m3, k3⟩ B
      rw [s149_p6_Fe]
      unfold s149_p5
      simp only [dnlt, e_lss, e_iff]
      unfold s149_p1
      rw [List.take_of_length_le (by omega)] at m3
      exact hK w3 c ⟨va, vt, rv2, lv3, rob2, lob3, its2, ps3, x3, m2, m3⟩ k3
end
end Go.Proofs.Qxb6500896aGreat
