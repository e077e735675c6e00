import Derived.Test.Qxb6500896aGreatM24
import Derived.Test.Qxb6500896aGreatN26
namespace Go.Proofs.Qxb6500896aGreat
open Go.Sh Go.RowKit
set_option linter.unusedVariables false
set_option linter.unusedSimpArgs false

theorem valid_h {now : Int} {q : Rq} (h : q.op = 1 ∨ q.op = 22) : valid park now q = (if vParty park q.cl q.sz = 0 then vLegs park now q.legs else vParty park q.cl q.sz) := by
  unfold valid
  rw [if_pos h]
/-- who stands ahead -/
def cntB (id : Int) (l : List Int) : Nat := l.countP fun x => decide (x < id)
def sumB (rs : List Rec) (id : Int) (l : List Int) : Int := ((l.filter fun x => decide (x < id)).map fun x => (rget rs x).sz).sum
theorem plF_eq {rs : List Rec} {id : Int} : ∀ {l : List Int} {i : Nat} {ah : Int}, l.Pairwise (· < ·) → id ∈ l → plF rs id l i ah = some (i + cntB id l + 1, ah + sumB rs id l)
  | [], i, ah, _, h => by cases h
  | x :: l, i, ah, hp, h => by
    rw [List.pairwise_cons] at hp
    rw [plF]
    by_cases hx : x = id
    · rw [if_pos hx]
      have hn : ∀ y ∈ l, ¬ y < id := fun y hy => by have := hp.1 y hy; omega
      have e1 : cntB id (x :: l) = 0 := by
        unfold cntB
        rw [List.countP_eq_zero]
        intro y hy
        rcases List.mem_cons.1 hy with q | q
        · rw [q, hx]; simp
        · simp only [decide_eq_true_eq]; exact hn y q
      have e2 : sumB rs id (x :: l) = 0 := by
        unfold sumB
        rw [List.filter_eq_nil_iff.2]
        · rfl
        · intro y hy
          rcases List.mem_cons.1 hy with q | q
          · rw [q, hx]; simp
          · simp only [decide_eq_true_eq]; exact hn y q
      rw [e1, e2, Nat.add_zero, Int.add_zero]
    · rw [if_neg hx]
      have hm : id ∈ l := by
        rcases List.mem_cons.1 h with q | q
        · exact absurd q.symm hx
        · exact q
      have hlt : x < id := hp.1 id hm
      rw [plF_eq hp.2 hm]
      have e1 : cntB id (x :: l) = cntB id l + 1 := by
        unfold cntB
        rw [List.countP_cons, if_pos (decide_eq_true hlt)]
      have e2 : sumB rs id (x :: l) = (rget rs x).sz + sumB rs id l := by
        unfold sumB
        rw [List.filter_cons, if_pos (decide_eq_true hlt), List.map_cons, List.sum_cons]
      rw [e1, e2]
      congr 2
      · omega
      · omega
theorem cntB_t {id : Int} {l : List Int} {i : Nat} (hi : i < l.length) : cntB id (l.take (i + 1)) = cntB id (l.take i) + if l[i] < id then 1 else 0 := by
  unfold cntB
  rw [List.take_succ_eq_append_getElem hi, List.countP_append, List.countP_singleton]
  simp only [decide_eq_true_eq]
theorem sumB_t {rs : List Rec} {id : Int} {l : List Int} {i : Nat} (hi : i < l.length) : sumB rs id (l.take (i + 1)) = sumB rs id (l.take i) + if l[i] < id then (rget rs l[i]).sz else 0 := by
  unfold sumB
  rw [List.take_succ_eq_append_getElem hi, List.filter_append, List.map_append, List.sum_append]
  congr 1
  by_cases h : l[i] < id
  · rw [if_pos h, List.filter_cons, if_pos (decide_eq_true h)]; simp
  · rw [if_neg h, List.filter_cons, if_neg (by simpa using h)]; simp
section
variable {O G O2 O' S F : Nat → Prop} {w w' w0 w1 : World} {m c ib rb lb a j : Nat} {now n : Int} {rv lv v1 : Value} {s s2 : Ms} {K : Value → World → Prop} {X : World → Prop} {seq : Int} {σ : Sg} {q : Rq} {id st op : Int} {B1 : List Value → World → Prop}
set_option maxHeartbeats 2000000 in
theorem placeM_ok (h : Mw O G w0 O' w m σ.ms) (g : SGd park σ) (hq : q.op = 24) (hN : XprN q) (hK : MK O G w0 m K σ.ms (quM q σ)) : cl Tryz.prog 103 #[P m 0, I q.id] K w := by
  have hm : Mk σ.ms := MG.mk ⟨_, g⟩
  have hlen := g.len
  have hmb : park.mb = 26 := rfl
  rw [hmb] at hlen
  have ev : valid park σ.now q = 0 := by
    unfold valid; rw [if_neg (by omega), if_neg (by omega), if_neg (by omega), if_neg (by omega), if_neg (by omega)]
  have hrp := qR_rpn park_cv (by decide) g hN ev (by omega)
  unfold quM at hK
  unfold qR qPlace at hK hrp
  rw [if_pos ev] at hK
  rw [if_neg (by omega), if_neg (by omega), if_neg (by omega), if_neg (by omega), if_neg (by omega), if_neg (by omega), if_neg (by omega), if_neg (by omega), if_pos hq] at hK hrp
  apply c103
  unfold s103_p5
  refine known_ok (h.mr g) ?_
  simp only [e_not]
  by_cases hh : has σ.rs q.id
  case neg =>
    have e0 : (!decide (has σ.ms.rs q.id)) = true := by rw [decide_eq_false hh]; rfl
    simp only [e0, e_ift]
    rw [if_neg hh, eR_rf (by decide)] at hK
    exact no_ok (by decide) (h.out hK)
  have e0 : (!decide (has σ.ms.rs q.id)) = false := by rw [decide_eq_true hh]; rfl
  simp only [e0, e_iff]
  rw [if_pos hh] at hK hrp
  obtain ⟨j, ej, hj⟩ := has_at hh
  have er := rget_at ej hj
  rw [er] at hK hrp
  refine h.mo.recI ej hj (by show σ.rs.length ≤ 1000; omega) fun rb hq1 => ?_
  refine fd2 (hq1.cell (s := σ.ms) hj (show 1 < 6 by decide) (x := I σ.rs[j].st) rfl ?_)
  simp only [e_neq]
  by_cases hst : σ.rs[j].st = 7
  case neg =>
    have a1 : (σ.rs[j].st != 7) = true := bne_iff_ne.2 hst
    simp only [a1, e_ift]
    rw [if_neg hst, eR_rf (by decide)] at hK
    exact no_ok (by decide) (h.out hK)
  have a1 : (σ.rs[j].st != 7) = false := by rw [hst]; rfl
  simp only [a1, e_iff]
  rw [if_pos hst] at hK hrp
  have hsh := sh_wait (g.rc _ (List.getElem_mem hj)).sh hst (g.rn _ (List.getElem_mem hj)).ln.1
  have h3 : park.ats.length = 3 := rfl
  rw [h3] at hsh
  obtain ⟨a, ea⟩ : ∃ a : Nat, σ.rs[j].ln - 1 = (a : Int) := ⟨(σ.rs[j].ln - 1).toNat, by omega⟩
  have ha3 : a < 3 := by omega
  have hal : a < σ.ls.length := by rw [g.li.len]; exact ha3
  have eln := lnOf_at hal
  refine h.mo.recI ej hj (by show σ.rs.length ≤ 1000; omega) fun rb hq1 => ?_
  refine fd2 (hq1.cell (s := σ.ms) hj (show 4 < 6 by decide) (x := I σ.rs[j].ln) rfl ?_)
  simp only [e_sub]
  rw [wrap64_id (by omega) (by omega), ea]
  rw [ea] at hK hrp
  have hmem : q.id ∈ lnOf σ.ls (a : Nat) := by
    obtain ⟨l, hl, hin⟩ := g.li.all q.id hh (by rw [er]; exact hst)
    obtain ⟨k, hk, rfl⟩ := List.getElem_of_mem hl
    have := (g.li.at_ k hk _ hin).2.2
    rw [er] at this
    have : k = a := by omega
    subst this
    rw [eln]; exact hin
  have hord : (lnOf σ.ls (a : Nat)).Pairwise (· < ·) := by rw [eln]; exact g.li.ord _ (List.getElem_mem hal)
  have hat : ∀ x ∈ lnOf σ.ls (a : Nat), has σ.rs x := fun x hx => by rw [eln] at hx; exact (g.li.at_ a hal x hx).1
  rw [plF_eq hord hmem] at hK hrp
  simp only at hK hrp
  obtain ⟨va, vt, rv, lv, rm, _, _, _, hlr⟩ := (h.mr g).parts
  obtain ⟨vals, v1, v2, v3⟩ := hlr
  replace v2 : vals.length = σ.ls.length := v2
  have hav : a < vals.length := by omega
  have hline := v3 a hav hal
  have hll : (σ.ls[a]).length ≤ 1000 := hm.ll _ (List.getElem_mem (show a < σ.ms.ls.length from hal))
  rw [← eln] at hll
  replace hline : Ar iC 1 _ w vals[a] (lnOf σ.ls (a : Nat)) := eln ▸ hline
  refine nk0 (fdp (ld1_r (v := lv) rm rfl ?_))
  refine v1.ix hav fun b o _ cc => ?_
  refine cc.ld0 (v := vals[a]) rfl ?_
  refine hline.ln ?_
  generalize lnOf σ.ls ((a : Nat) : Int) = line at *
  unfold s103_p4
  have hsz : ∀ x ∈ line, 0 ≤ (rget σ.rs x).sz ∧ (rget σ.rs x).sz ≤ 5 := fun x hx => by
    obtain ⟨i, ei, hi⟩ := has_at (hat x hx)
    rw [rget_at ei hi]
    have r := g.rc _ (List.getElem_mem hi)
    have h0 := r.s0
    have h1 := r.s1
    have h5 : park.mp = 5 := rfl
    omega
  refine loop_n line.length (fun i l w' => w' = w ∧ l = [P m 0, I q.id, I (a : Nat), I ((cntB q.id (line.take i) + 1 : Nat) : Int), I (sumB σ.rs q.id (line.take i)), vals[a], I (line.length : Nat), I (i : Nat)] ∧ cntB q.id (line.take i) ≤ i ∧ 0 ≤ sumB σ.rs q.id (line.take i) ∧ sumB σ.rs q.id (line.take i) ≤ 5 * ((i : Nat) : Int)) ⟨rfl, rfl, by simp [cntB], by simp [sumB], by simp [sumB]⟩ ?_ ?_
  · rintro i l w2 hi ⟨rfl, rfl, b1, b2, b3⟩ B hB
    rw [s103_p4_Fe]
    unfold s103_p3
    simp only [dlt hi, e_lss, e_ift]
    refine hline.ix hi fun b1 o1 _ c1 => ?_
    refine c1.ld0 (v := I line[i]) rfl ?_
    have ct := cntB_t (id := q.id) hi
    have stt := sumB_t (rs := σ.rs) (id := q.id) hi
    simp only [e_lss]
    by_cases hlt : line[i] < q.id
    · rw [if_pos hlt] at ct stt
      simp only [decide_eq_true hlt, e_ift, e_add]
      rw [inc _ (by omega)]
      obtain ⟨k, ek, hk⟩ := has_at (hat _ (List.getElem_mem hi))
      have erk := rget_at ek hk
      have hz := hsz _ (List.getElem_mem hi)
      refine h.mo.recI ek hk (by show σ.rs.length ≤ 1000; omega) fun rb2 hq2 => ?_
      refine fd2 (hq2.cell (s := σ.ms) hk (show 3 < 6 by decide) (x := I σ.rs[k].sz) rfl ?_)
      rw [erk] at hz stt
      simp only [e_add]
      rw [wrap64_id (by omega) (by omega)]
      unfold s103_p2
      simp only [e_add]
      rw [inc i (by omega)]
      exact hB _ _ ⟨rfl, by rw [ct, stt], by omega, by omega, by omega⟩
    · rw [if_neg hlt] at ct stt
      simp only [decide_eq_false hlt, e_iff]
      unfold s103_p2
      simp only [e_add]
      rw [inc i (by omega)]
      exact hB _ _ ⟨rfl, (by rw [ct, stt, Int.add_zero]; try rfl), by omega, by omega, by omega⟩
  · rintro l w2 ⟨rfl, rfl, b1, b2, b3⟩ B
    rw [s103_p4_Fe]
    unfold s103_p3
    simp only [dnlt, e_lss, e_iff]
    unfold s103_p1
    rw [List.take_length] at b1 b2 b3 ⊢
    refine bsq_r (l := [I (a : Nat), I ((cntB q.id line + 1 : Nat) : Int), I (sumB σ.rs q.id line)]) rfl fun w3 r3 hk3 hz3 => ?_
    have sl3 : Sl iC 1 w3 3 (some w2.heap.size) (.slice (some ⟨w2.heap.size, 0, none⟩) 3 3) [((a : Nat) : Int), ((cntB q.id line + 1 : Nat) : Int), sumB σ.rs q.id line] := ⟨3, [], rfl, Nat.le_refl _, rfl, by rw [List.append_nil]; exact r3⟩
    rw [eR_24 rfl hq] at hK
    refine yes_s (h.emp hk3) sl3 (fun x hx => ?_) (by simp) ?_
    · simp only [List.mem_cons, List.not_mem_nil, or_false] at hx
      rcases hx with e | e | e
      · rw [e]; exact ⟨by omega, by omega⟩
      · rw [e]; exact ⟨by omega, by omega⟩
      · rw [e]; exact ⟨by omega, by omega⟩
    · rw [Nat.zero_add, Int.zero_add] at hK
      simpa [List.flatMap_cons] using hK
set_option maxHeartbeats 2000000 in
theorem quoteM_ok (h0 : Mo O G w0 m σ.ms) (k0 : Kp Emp w0 w) (g : SGd park σ) (hq : q.op = 22) (hc : 0 ≤ q.cl) (hs : 0 ≤ q.sz) (hl : Ar lC 2 F w lv q.legs) (hF : ∀ b, F b → Nb w0 w b) (hll : q.legs.length ≤ 1000) (hr : ∀ l ∈ q.legs, N63 l.a ∧ N63 l.s)
    (hK : MK O G w0 m K σ.ms (quM q σ)) : cl Tryz.prog 101 #[P m 0, I q.cl, I q.sz, lv] K w := by
  have hm : Mk σ.ms := MG.mk ⟨_, g⟩
  have gl : ∀ b, G b → b < w0.heap.size := fun b q => h0.lt b (.inr q)
  apply c101
  unfold s101_p2
  refine mclone_ok (h0.kp' k0) hm fun w1 c h1 hk1 => ?_
  have s0 := k0.size
  have s1 := hk1.size
  have mw1 : Mw Emp G w0 (Nb w w1) w1 c σ.ms := ⟨h1, fun _ q => q.elim, fun b q => .inr ⟨by have := q.1; omega, q.2⟩, k0.trans hk1, gl⟩
  refine hold_m (q := ⟨1, q.id, q.at', q.sl, q.cl, q.sz, q.li, q.legs⟩) mw1 g rfl hc hs (hl.kp' hk1) (fun b q => ⟨⟨(hF b q).1, by have := (hF b q).2; omega⟩, fun r => by have := r.1; have := (hF b q).2; omega⟩) hll hr ?_
  intro w2 v2 b2 O2 m2 sl2 hb2 hn2
  have hM : ∀ {w' : World} {l : List Int}, Kp Emp w0 w' → MK O G w0 m K σ.ms l → Sl bC 1 w' 5 (some b2) v2 l → K v2 w' := fun hk hK' sl => by
    refine hK' _ v2 b2 O ((Mw.start h0).emp hk) sl hb2 fun q => ?_
    have := h0.lt b2 (.inl q)
    omega
  have ev : valid park σ.now ⟨1, q.id, q.at', q.sl, q.cl, q.sz, q.li, q.legs⟩ = valid park σ.now q := (valid_h (.inl rfl)).trans (valid_h (.inr hq)).symm
  unfold chM at sl2
  rw [ev] at sl2
  unfold quM at hK
  refine sl2.ln ?_
  simp only [e_gtr]
  have one : ∀ c : Int, Sl bC 1 w2 5 (some b2) v2 [c] → MK O G w0 m K σ.ms [c] → ifb (.bool (decide ((1 : Int) < (([c] : List Int).length : Nat)))) (ixs 1 v2 (I 1) (fun t20 w => st1 t20 (U8 22) (fun w => s101_p1 K v2 w) w) w2) (s101_p1 K v2 w2) := fun c sl hK' => by
    simp only [List.length_singleton, show decide ((1 : Int) < ((1 : Nat) : Int)) = false from rfl, e_iff]
    unfold s101_p1
    exact hM m2.k hK' sl
  by_cases hv : valid park σ.now q = 0
  case neg =>
    rw [if_neg hv] at hK
    rw [if_neg hv] at sl2 ⊢
    rw [eR_rf hv] at sl2 ⊢
    exact one _ sl2 hK
  rw [if_pos hv] at hK
  rw [if_pos hv] at sl2 ⊢
  unfold qR qQuo at hK
  rw [if_neg (by omega), if_neg (by omega), if_neg (by omega), if_neg (by omega), if_neg (by omega), if_neg (by omega), if_pos hq] at hK
  unfold apS hoR tHoldR tHold at sl2 ⊢
  simp only [if_true] at sl2 ⊢
  by_cases ht : tCheck park q.cl q.sz q.legs σ.rs = 0
  case neg =>
    rw [if_neg ht, eR_rf ht] at hK
    simp only [if_neg ht] at sl2 ⊢
    rw [eR_rf ht] at sl2 ⊢
    exact one _ sl2 hK
  rw [if_pos ht, eR_22 rfl hq] at hK
  simp only [if_pos ht, if_true] at sl2 ⊢
  rw [eR_1 (p := { rp0 with op := 1, id := ((σ.rs.length + 1 : Nat) : Int), ex := σ.now + park.ht }) rfl rfl] at sl2 ⊢
  have hlen : 1 < ([0, 1] ++ (uI ((σ.rs.length + 1 : Nat) : Int) ++ uI (σ.now + park.ht))).length := by
    rw [List.length_append]; simp only [List.length_cons, List.length_nil]; omega
  simp only [decide_eq_true (show (1 : Int) < ((([0, 1] ++ (uI ((σ.rs.length + 1 : Nat) : Int) ++ uI (σ.now + park.ht))).length : Nat) : Int) by omega), e_ift]
  refine sl_ixp (i := 1) sl2 hlen ?_
  refine sl_upd (j := 0) (y := (22 : Int)) sl2 bC_len hlen (by decide) rfl rfl fun w3 sl3 hk3 hz3 => ?_
  unfold s101_p1
  refine hM (m2.k.then hk3 fun b hb (q : b = b2) => by omega) hK ?_
  simpa using sl3
end
end Go.Proofs.Qxb6500896aGreat
