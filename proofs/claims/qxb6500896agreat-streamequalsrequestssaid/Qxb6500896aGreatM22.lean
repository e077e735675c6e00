import Derived.Test.Qxb6500896aGreatM21
namespace Go.Proofs.Qxb6500896aGreat
open Go.Sh Go.RowKit
set_option linter.unusedVariables false
set_option linter.unusedSimpArgs false

/-- a question as the model answers it -/
def quM (q : Rq) (σ : Sg) : List Int := if valid park σ.now q = 0 then eR (qR park q σ) else [valid park σ.now q]
theorem rowL_enc (r : Rec) : (rowL r).flatMap uI = encRec r := by
  have : ∀ l : List Leg, (l.flatMap fun l => [l.a, l.s]).flatMap uI = encLs l := fun l => by
    unfold encLs
    induction l with
    | nil => rfl
    | cons a l ih => rw [List.flatMap_cons, List.flatMap_append, ih, List.flatMap_cons]; simp
  unfold rowL encRec encLegs
  rw [List.flatMap_append, this]
  simp [List.flatMap_cons]
theorem rowL_encs (rs : List Rec) : (rs.flatMap rowL).flatMap uI = encRs rs := by
  unfold encRs
  induction rs with
  | nil => rfl
  | cons a l ih => rw [List.flatMap_cons, List.flatMap_append, ih, List.flatMap_cons, rowL_enc]
theorem rowL_len {r : Rec} (h : r.legs.length ≤ 8) : (rowL r).length ≤ 23 := by
  have : ∀ l : List Leg, (l.flatMap fun l => [l.a, l.s]).length = 2 * l.length := fun l => by
    induction l with
    | nil => simp
    | cons a l ih => rw [List.flatMap_cons, List.length_append, List.length_cons, ih]; simp only [List.length_cons, List.length_nil]; omega
  unfold rowL
  rw [List.length_append, this]
  simp only [List.length_cons, List.length_nil]
  omega
theorem rowL_N {r : Rec} (h : RN r) : ∀ x ∈ rowL r, N63 x := fun x hx => by
  have hl := h.ll
  unfold rowL at hx
  rcases List.mem_append.1 hx with q | q
  · simp only [List.mem_cons, List.not_mem_nil, or_false] at q
    rcases q with q | q | q | q | q | q | q
    · rw [q]; exact h.id
    · rw [q]; exact h.st
    · rw [q]; exact h.cl
    · rw [q]; exact h.sz
    · rw [q]; exact h.ln
    · rw [q]; exact h.ex
    · rw [q]; exact ⟨by omega, by omega⟩
  · obtain ⟨l, hl, q⟩ := List.mem_flatMap.1 q
    simp only [List.mem_cons, List.not_mem_nil, or_false] at q
    rcases q with q | q
    · rw [q]; exact (h.lg l hl).1
    · rw [q]; exact (h.lg l hl).2
theorem rows_len {rs : List Rec} (h : ∀ r ∈ rs, RN r) : (rs.flatMap rowL).length ≤ 23 * rs.length := by
  induction rs with
  | nil => simp
  | cons a l ih =>
    rw [List.flatMap_cons, List.length_append, List.length_cons]
    have := ih fun r hr => h r (List.mem_cons_of_mem _ hr)
    have := rowL_len (h a List.mem_cons_self).ll
    omega
theorem eR_16 {p : Rp} (h : p.code = 0) (ho : p.op = 16) : eR p = [0, 16] ++ encRec (p.recs.head?.getD zRec) := by
  rw [eR_0 h, ho]; unfold eB
  rw [if_neg (by omega), if_neg (by omega), if_neg (by omega), if_neg (by omega), if_pos ho]
theorem eR_17 {p : Rp} (h : p.code = 0) (ho : p.op = 17) : eR p = [0, 17] ++ (uI p.nx ++ uI (p.recs.length : Nat) ++ encRs p.recs) := by
  rw [eR_0 h, ho]; unfold eB
  rw [if_neg (by omega), if_neg (by omega), if_neg (by omega), if_neg (by omega), if_neg (by omega), if_pos ho]
theorem eR_18 {p : Rp} (h : p.code = 0) (ho : p.op = 18) : eR p = [0, 18] ++ (uI p.oc ++ uI p.e0 ++ uI p.e1 ++ uI p.e2 ++ uI p.fr) := by
  rw [eR_0 h, ho]; unfold eB
  rw [if_neg (by omega), if_neg (by omega), if_neg (by omega), if_neg (by omega), if_neg (by omega), if_neg (by omega), if_pos ho]
theorem eR_19 {p : Rp} (h : p.code = 0) (ho : p.op = 19) : eR p = [0, 19] ++ (uI (p.wt.length : Nat) ++ encIds p.wt) := by
  rw [eR_0 h, ho]; unfold eB
  rw [if_neg (by omega), if_neg (by omega), if_neg (by omega), if_neg (by omega), if_neg (by omega), if_neg (by omega), if_neg (by omega), if_pos ho]
theorem eR_20 {p : Rp} (h : p.code = 0) (ho : p.op = 20) : eR p = [0, 20] ++ (uI p.now ++ uI p.la ++ uI p.gr) := by
  rw [eR_0 h, ho]; unfold eB
  rw [if_neg (by omega), if_neg (by omega), if_neg (by omega), if_neg (by omega), if_neg (by omega), if_neg (by omega), if_neg (by omega), if_neg (by omega), if_pos ho]
theorem eR_21 {p : Rp} (h : p.code = 0) (ho : p.op = 21) : eR p = [0, 21] ++ uI p.sl := by
  rw [eR_0 h, ho]; unfold eB
  rw [if_neg (by omega), if_neg (by omega), if_neg (by omega), if_neg (by omega), if_neg (by omega), if_neg (by omega), if_neg (by omega), if_neg (by omega), if_neg (by omega), if_pos ho]
theorem eR_22 {p : Rp} (h : p.code = 0) (ho : p.op = 22) : eR p = [0, 22] ++ (uI p.id ++ uI p.ex) := by
  rw [eR_0 h, ho]; unfold eB
  rw [if_pos (.inr ho)]
theorem eR_23 {p : Rp} (h : p.code = 0) (ho : p.op = 23) : eR p = [0, 23] ++ encIds (p.cnt.drop 1) := by
  rw [eR_0 h, ho]; unfold eB
  rw [if_neg (by omega), if_neg (by omega), if_neg (by omega), if_neg (by omega), if_neg (by omega), if_neg (by omega), if_neg (by omega), if_neg (by omega), if_neg (by omega), if_neg (by omega), if_pos ho]
theorem eR_24 {p : Rp} (h : p.code = 0) (ho : p.op = 24) : eR p = [0, 24] ++ (uI p.at' ++ uI p.pos ++ uI p.ah) := by
  rw [eR_0 h, ho]; unfold eB
  rw [if_neg (by omega), if_neg (by omega), if_neg (by omega), if_neg (by omega), if_neg (by omega), if_neg (by omega), if_neg (by omega), if_neg (by omega), if_neg (by omega), if_neg (by omega), if_neg (by omega), if_pos ho]
section
variable {O G O2 O' S F : Nat → Prop} {w w' w0 w1 : World} {m c ib rb lb a j : Nat} {now n : Int} {rv lv v1 : Value} {s s2 : Ms} {K : Value → World → Prop} {X : World → Prop} {seq : Int} {σ : Sg} {q : Rq} {id st op : Int}
set_option maxHeartbeats 1000000 in
theorem getM_ok (h : Mw O G w0 O' w m σ.ms) (g : SGd park σ) (hq : q.op = 16) (hK : MK O G w0 m K σ.ms (quM q σ)) : cl Tryz.prog 95 #[P m 0, I q.id] K w := by
  have hm : Mk σ.ms := MG.mk ⟨_, g⟩
  have hlen := g.len
  have hmb : park.mb = 26 := rfl
  rw [hmb] at hlen
  have ev : valid park σ.now q = 0 := by
    unfold valid; rw [if_neg (by omega), if_neg (by omega), if_neg (by omega), if_neg (by omega), if_neg (by omega)]
  unfold quM qR qGet at hK
  rw [if_pos ev, if_pos hq] at hK
  have hmr := h.mr g
  apply c95
  unfold s95_p1
  refine known_ok hmr ?_
  simp only [e_not]
  by_cases hh : has σ.rs q.id
  case neg =>
    have e0 : (!decide (has σ.ms.rs q.id)) = true := by rw [decide_eq_false hh]; rfl
    simp only [e0, e_ift]
    rw [if_neg hh, eR_rf (by decide)] at hK
    exact no_ok (by decide) (h.out hK)
  have e0 : (!decide (has σ.ms.rs q.id)) = false := by rw [decide_eq_true hh]; rfl
  simp only [e0, e_iff]
  rw [if_pos hh] at hK
  obtain ⟨j, ej, hj⟩ := has_at hh
  have er := rget_at ej hj
  obtain ⟨va, vt, rv, lv, rm, _, _, hro, _⟩ := hmr.parts
  obtain ⟨its, e1, hA, hlg⟩ := hro
  replace e1 : its.map (·.1) = σ.rs := e1
  have hil : its.length = σ.rs.length := by rw [← e1, List.length_map]
  have hj2 : j < its.length := by omega
  have ei : its[j].1 = σ.rs[j] := by
    have : (its.map (·.1))[j]? = σ.rs[j]? := by rw [e1]
    rw [List.getElem?_map, List.getElem?_eq_getElem hj2, List.getElem?_eq_getElem hj] at this
    exact Option.some.inj this
  refine nk0 (fdp (ld1_r (v := rv) rm rfl ?_))
  simp only [e_sub]
  rw [wrap64_id (by omega) (by omega), show q.id - 1 = ((j : Nat) : Int) by omega]
  refine hA.ix hj2 fun b o _ cc => ?_
  refine cc.ldn (rC_len _) ?_
  have rn := g.rn _ (List.getElem_mem hj)
  have hl8 := rn.ll
  refine row_ok (p := its[j]) (hlg _ (List.getElem_mem hj2)) (fun b q => h.mo.lt b q) (by rw [ei]; omega) fun w1 v1 b1 sl1 hb1 hk1 => ?_
  rw [ei] at sl1
  have hl23 := rowL_len hl8
  refine yes_s (h.emp hk1) sl1 (rowL_N rn) (by omega) ?_
  rw [eR_16 rfl hq] at hK
  rw [rowL_enc, ← er]
  exact hK
set_option maxHeartbeats 1000000 in
theorem lineM_ok (h : Mw O G w0 O' w m σ.ms) (g : SGd park σ) (hq : q.op = 19) (ha0 : 0 ≤ q.at') (hK : MK O G w0 m K σ.ms (quM q σ)) : cl Tryz.prog 98 #[P m 0, I q.at'] K w := by
  have hm : Mk σ.ms := MG.mk ⟨_, g⟩
  have h3 : park.ats.length = 3 := rfl
  have ev : valid park σ.now q = (if hasA park q.at' = true then 0 else 13) := by
    unfold valid; rw [if_neg (by omega), if_neg (by omega), if_neg (by omega), if_neg (by omega), if_pos hq]
  unfold quM qR qLine at hK
  rw [ev, if_neg (show ¬ q.op = 16 by omega), if_neg (show ¬ q.op = 17 by omega), if_neg (show ¬ q.op = 18 by omega), if_pos hq] at hK
  apply c98
  unfold s98_p3
  refine nk0 (fdp (fdp ((h.mr g).ats ?_)))
  simp only [e_geq]
  by_cases ha : q.at' < 3
  case neg =>
    have e0 : decide (((3 : Nat) : Int) ≤ q.at') = true := decide_eq_true (by omega)
    simp only [e0, e_ift]
    have eh : hasA park q.at' = false := by unfold hasA; rw [h3, decide_eq_false (show ¬ q.at' < ((3 : Nat) : Int) by omega), Bool.and_false]
    rw [eh] at hK
    exact no_ok (by decide) (h.out hK)
  have e0 : decide (((3 : Nat) : Int) ≤ q.at') = false := decide_eq_false (by omega)
  simp only [e0, e_iff]
  have eh : hasA park q.at' = true := by unfold hasA; rw [h3, decide_eq_true ha0, decide_eq_true (show q.at' < ((3 : Nat) : Int) by omega)]; rfl
  rw [if_pos eh, if_pos rfl] at hK
  obtain ⟨a, ea⟩ : ∃ a : Nat, q.at' = (a : Int) := ⟨q.at'.toNat, by omega⟩
  have ha3 : a < 3 := by omega
  rw [ea] at hK ⊢
  have hal : a < σ.ls.length := by rw [g.li.len]; exact ha3
  have eln := lnOf_at hal
  unfold s98_p2 s98_p2_d
  have kd : Kp Emp w (drw w) := kp_drw
  generalize drw w = w1 at kd ⊢
  have h1 := h.emp kd
  refine nk0 (fdp ((h1.mr g).lln hm.ln ha3 ?_))
  obtain ⟨va, vt, rv, lv, rm, _, _, _, hlr⟩ := (h1.mr g).parts
  obtain ⟨vals, v1, v2, v3⟩ := hlr
  replace v2 : vals.length = σ.ls.length := v2
  have hav : a < vals.length := by omega
  have hline := v3 a hav hal
  have hll : (σ.ls[a]).length ≤ 1000 := hm.ll _ (List.getElem_mem (show a < σ.ms.ls.length from hal))
  rw [← eln] at hll
  replace hline : Ar iC 1 _ w1 vals[a] (lnOf σ.ls (a : Nat)) := eln ▸ hline
  refine nk0 (fdp (ld1_r (v := lv) rm rfl ?_))
  refine v1.ix hav fun b o _ cc => ?_
  refine cc.ld0 (v := vals[a]) rfl ?_
  refine bsq_r (l := [I ((lnOf σ.ls (a : Nat)).length : Nat)]) rfl fun w2 r2 hk2 hz2 => ⟨hk2.below', ?_⟩
  have sl2 : Sl iC 1 w2 3 (some w1.heap.size) (.slice (some ⟨w1.heap.size, 0, none⟩) 1 1) [(((lnOf σ.ls (a : Nat)).length : Nat) : Int)] := ⟨1, [], rfl, Nat.le_refl _, rfl, by rw [List.append_nil]; exact r2⟩
  refine Sl.app3 iC_len rfl (fun _ _ => rfl) sl2 ((hline.kp' hk2).rds iC_len) (by simp only [List.length_singleton]; omega) (by simp only [List.length_singleton]; omega) fun w4 v4 ob4 sl4 hk4 ho4 => ?_
  have k14 : Kp Emp w1 w4 := hk2.then hk4 fun b hb e => by cases e; omega
  have hb4 : ∃ b4, ob4 = some b4 := by
    rcases ho4 with q | ⟨c, q, hc⟩
    · exact ⟨_, q⟩
    · exact ⟨c, q⟩
  obtain ⟨b4, rfl⟩ := hb4
  unfold s98_p1
  refine yes_s (h1.emp k14) sl4 (fun x hx => ?_) (by simp only [List.length_append, List.length_singleton]; omega) ?_
  · rcases List.mem_append.1 hx with q | q
    · rw [List.mem_singleton.1 q]; exact ⟨by omega, by omega⟩
    · rw [eln] at q
      have := (g.li.at_ a hal x q).1
      have hlen := g.len
      have hmb : park.mb = 26 := rfl
      rw [hmb] at hlen
      exact ⟨by have := this.1; omega, by have := this.2; omega⟩
  · rw [eR_19 rfl hq] at hK
    unfold encIds at hK
    simpa using hK
set_option maxHeartbeats 2000000 in
theorem countM_ok (h : Mw O G w0 O' w m σ.ms) (g : SGd park σ) (hq : q.op = 23) (hK : MK O G w0 m K σ.ms (quM q σ)) : cl Tryz.prog 102 #[P m 0] K w := by
  have hm : Mk σ.ms := MG.mk ⟨_, g⟩
  have hlen := g.len
  have hmb : park.mb = 26 := rfl
  rw [hmb] at hlen
  have ev : valid park σ.now q = 0 := by
    unfold valid; rw [if_neg (by omega), if_neg (by omega), if_neg (by omega), if_neg (by omega), if_neg (by omega)]
  unfold quM qR qCnt at hK
  rw [if_pos ev, if_neg (by omega), if_neg (by omega), if_neg (by omega), if_neg (by omega), if_neg (by omega), if_neg (by omega), if_neg (by omega), if_pos hq, eR_23 rfl hq] at hK
  obtain ⟨va, vt, rv, lv, rm, _, _, hro, _⟩ := (h.mr g).parts
  obtain ⟨its, e1, hA, hlg⟩ := hro
  replace e1 : its.map (·.1) = σ.rs := e1
  have hil : its.length = σ.rs.length := by rw [← e1, List.length_map]
  apply c102
  unfold s102_p10
  refine Sl.empty (f := iC) (k := 1) (e := 3) fun w1 sl1 hk1 hz1 => ?_
  unfold s102_p9
  let f : Nat → Int := fun s => ((σ.rs.countP fun r => r.st == ((s : Nat) : Int)) : Int)
  refine loop_n 9 (fun i l w' => ∃ v b, l = [P m 0, v, I ((i + 1 : Nat) : Int)] ∧ Sl iC 1 w' 3 (some b) v ((List.range i).map fun k => f (k + 1)) ∧ w.heap.size ≤ b ∧ Kp Emp w w') ⟨_, _, rfl, sl1, Nat.le_refl _, hk1⟩ ?_ ?_
  · rintro i l w2 hi ⟨v2, b2, rfl, sl2, hb2, k2⟩ B hB
    rw [s102_p9_Fe]
    unfold s102_p8
    simp only [e_lss, decide_eq_true (show ((i + 1 : Nat) : Int) < 10 by omega), e_ift]
    unfold s102_p7
    refine nk0 (fdp (ld1_r (v := rv) (k2.row' rm) rfl ?_))
    refine hA.ln ?_
    unfold s102_p6
    refine loop_n its.length (fun j l w' => l = [P m 0, v2, I ((i + 1 : Nat) : Int), I (((its.take j).countP fun p => p.1.st == ((i + 1 : Nat) : Int)) : Nat), rv, I (its.length : Nat), I (j : Nat)] ∧ Kp Emp w w' ∧ Kp Emp w2 w') ⟨rfl, k2, Kp.refl _ _⟩ ?_ ?_
    · rintro j l w3 hj ⟨rfl, k3, k23⟩ B2 hB2
      rw [s102_p6_Fe]
      unfold s102_p5
      simp only [dlt hj, e_lss, e_ift]
      have hsc := (hlg _ (List.getElem_mem hj)).scal
      refine each_r rfl (hA.kp' k3) hj (rC_len _) (rC_sc hsc) fun w4 r4 hk4 hz4 => ?_
      refine fdp (ld1_r (v := I its[j].1.st) r4 rfl ?_)
      simp only [e_eql]
      have hcp : (its.take j).countP (fun p => p.1.st == ((i + 1 : Nat) : Int)) ≤ 1000 := Nat.le_trans List.countP_le_length (by rw [List.length_take]; omega)
      have hst : (its.take (j + 1)).countP (fun p => p.1.st == ((i + 1 : Nat) : Int)) = (its.take j).countP (fun p => p.1.st == ((i + 1 : Nat) : Int)) + (if (its[j].1.st == ((i + 1 : Nat) : Int)) = true then 1 else 0) := by
        rw [List.take_succ_eq_append_getElem hj, List.countP_append, List.countP_singleton]
      cases hs : (its[j].1.st == ((i + 1 : Nat) : Int)) with
      | true =>
        rw [hs, if_pos rfl] at hst
        simp only [e_ift, e_add]
        rw [inc _ (by omega)]
        unfold s102_p4
        simp only [e_add]
        rw [inc j (by omega)]
        exact hB2 _ _ ⟨(by rw [hst]; try rfl), k3.trans hk4, k23.trans hk4⟩
      | false =>
        rw [hs, if_neg (by decide), Nat.add_zero] at hst
        simp only [e_iff]
        unfold s102_p4
        simp only [e_add]
        rw [inc j (by omega)]
        exact hB2 _ _ ⟨(by rw [hst]; try rfl), k3.trans hk4, k23.trans hk4⟩
    · rintro l w3 ⟨rfl, k3, k23⟩ B2
      rw [s102_p6_Fe]
      unfold s102_p5
      simp only [dnlt, e_lss, e_iff]
      unfold s102_p3
      rw [List.take_length]
      have ecp : its.countP (fun p => p.1.st == ((i + 1 : Nat) : Int)) = σ.rs.countP (fun r => r.st == ((i + 1 : Nat) : Int)) := by
        rw [← e1, List.countP_map]; rfl
      rw [ecp]
      refine (sl2.kp' k23).app iC_len rfl ((σ.rs.countP (fun r => r.st == ((i + 1 : Nat) : Int)) : Nat) : Int) rfl (by rw [List.length_map, List.length_range]; omega) (by rw [List.length_map, List.length_range]; omega) rfl fun w4 v4 ob4 sl4 hk4 ho4 => ?_
      have s3 := k3.size
      have hb4 : ∃ b4, ob4 = some b4 ∧ w.heap.size ≤ b4 := by
        rcases ho4 with q | ⟨c, q, hc⟩
        · exact ⟨_, q, hb2⟩
        · exact ⟨c, q, by omega⟩
      obtain ⟨b4, rfl, hb4⟩ := hb4
      unfold s102_p2
      simp only [e_add]
      rw [inc (i + 1) (by omega)]
      refine hB _ _ ⟨v4, b4, rfl, ?_, hb4, k3.then hk4 fun b hb e => by cases e; omega⟩
      rw [List.range_succ, List.map_append]
      exact sl4
  · rintro l w2 ⟨v2, b2, rfl, sl2, hb2, k2⟩ B
    rw [s102_p9_Fe]
    unfold s102_p8
    simp only [e_lss, decide_eq_false (show ¬ ((9 + 1 : Nat) : Int) < 10 by decide), e_iff]
    unfold s102_p1
    refine yes_s (h.emp k2) sl2 (fun x hx => ?_) (by rw [List.length_map, List.length_range]; decide) ?_
    · obtain ⟨k, hk, rfl⟩ := List.mem_map.1 hx
      have : σ.rs.countP (fun r => r.st == ((k + 1 : Nat) : Int)) ≤ σ.rs.length := List.countP_le_length
      exact ⟨by show 0 ≤ ((σ.rs.countP _ : Nat) : Int); omega, by show ((σ.rs.countP (fun r => r.st == ((k + 1 : Nat) : Int)) : Nat) : Int) ≤ _; omega⟩
    · exact hK
end
end Go.Proofs.Qxb6500896aGreat
