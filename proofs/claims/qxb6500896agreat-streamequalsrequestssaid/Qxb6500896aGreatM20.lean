import Derived.Test.Qxb6500896aGreatM19
namespace Go.Proofs.Qxb6500896aGreat
open Go.Sh Go.RowKit
set_option linter.unusedVariables false
set_option linter.unusedSimpArgs false

theorem mem_set {α : Type} {l : List α} {a : Nat} {p q : α} (h : q ∈ l.set a p) : q = p ∨ ∃ i, ∃ hi : i < l.length, i ≠ a ∧ l[i] = q := by
  obtain ⟨i, hi, e⟩ := List.getElem_of_mem h
  have hi' : i < l.length := by rw [List.length_set] at hi; exact hi
  by_cases hia : a = i
  · subst hia
    rw [List.getElem_set_self] at e
    exact .inl e.symm
  · rw [List.getElem_set_ne hia] at e
    exact .inr ⟨i, hi', fun q => hia q.symm, e⟩
theorem pw_set' {α : Type} {R : α → α → Prop} {p : α} {l : List α} {a : Nat} (h : l.Pairwise R) (hp : ∀ i (hi : i < l.length), i ≠ a → R l[i] p ∧ R p l[i]) : (l.set a p).Pairwise R := by
  rw [List.pairwise_iff_getElem] at h ⊢
  intro i j hi hj hij
  rw [List.length_set] at hi hj
  by_cases h1 : a = i
  · subst h1
    rw [List.getElem_set_self, List.getElem_set_ne (by omega)]
    exact (hp j hj (by omega)).2
  · rw [List.getElem_set_ne h1]
    by_cases h2 : a = j
    · subst h2
      rw [List.getElem_set_self]
      exact (hp i hi (by omega)).1
    · rw [List.getElem_set_ne h2]
      exact h i j hi hj hij
theorem rem_eq {seq now : Int} {rs : List Rec} {ls : List (List Int)} {id : Int} {a : Nat} (g : Gd park seq now rs ls) (ha : a < ls.length) (hln : (rget rs id).ln = ((a : Nat) : Int) + 1) : ls.set a (ls[a].filter (· != id)) = tRemove id ls := by
  refine List.ext_getElem (by rw [List.length_set]; unfold tRemove; rw [List.length_map]) fun i h1 h2 => ?_
  have e0 : (tRemove id ls)[i] = (ls[i]'(by rw [List.length_set] at h1; exact h1)).filter (· != id) := List.getElem_map _
  rw [e0]
  have hi' : i < ls.length := by rw [List.length_set] at h1; exact h1
  by_cases e : a = i
  · subst e
    rw [List.getElem_set_self]
  · rw [List.getElem_set_ne e]
    refine (List.filter_eq_self.2 fun y hy => ?_).symm
    rw [bne_iff_ne]
    intro q
    subst q
    have := (g.li.at_ i hi' _ hy).2.2
    omega
section
variable {O G O2 O' S F : Nat → Prop} {w w' w0 w1 : World} {m c ib rb lb a j : Nat} {now n : Int} {va vt rv lv v1 : Value} {rob lob ob1 : Option Nat} {its : List (Rec × Value)} {ps : List Lm} {s s2 : Ms} {K : Value → World → Prop} {X : World → Prop} {seq : Int} {σ : Sg} {q : Rq} {id st op : Int} {ls : List Leg}
/-- a line is appended to, in place or not, and set -/
theorem Mx.appLine {ids : List Int} (h : Mx O G w m now va vt rv lv rob (some lb) its ps) (ha : a < ps.length) (sl : Sl iC 1 w1 3 ob1 v1 ids) (hk : Kp (fun b => ps[a].blk = some b) w w1) (ho : ob1 = ps[a].blk ∨ ∃ c, ob1 = some c ∧ w.heap.size ≤ c)
    (hX : ∀ w', Mx (fun b => O b ∨ Nb w w' b) G w' m now va vt rv lv rob (some lb) its (ps.set a ⟨ids, v1, ob1⟩) → Kp O w w' → w'.heap.size = w1.heap.size → X w') : st1 (P lb (a * 1)) v1 X w1 := by
  obtain ⟨n1, n2, n3, n4, n5⟩ := h.nm
  have hpa := List.getElem_mem ha
  have hOa : ∀ b, ps[a].blk = some b → O b := fun b e => h.own b (.inr (.inr (.inr ⟨_, hpa, e⟩)))
  have hO := h.own lb (.inr (.inr (.inl rfl)))
  have olt : ∀ b, O b → b < w.heap.size := fun b q => h.lt b (.inl q)
  have s1 := hk.size
  have ap : ∀ i (hi : i < ps.length), i ≠ a → ∀ b, ps[i].blk = some b → ps[a].blk ≠ some b := fun i hi hne b e r => by
    have hpw := List.pairwise_iff_getElem.1 h.pw
    rcases Nat.lt_or_gt_of_ne hne with q | q
    · exact hpw i a hi ha q b e r
    · exact hpw a i ha hi q b r e
  have nb1 : ∀ b, ob1 = some b → ps[a].blk = some b ∨ w.heap.size ≤ b := fun b e => by
    rcases ho with q | ⟨c, q, hc⟩
    · exact .inl (by rw [← q]; exact e)
    · rw [q] at e; cases e; exact .inr hc
  have lsl1 := h.lsl.kp hk fun b e r => (n5 _ hpa b r).2 e
  refine sl_upd (j := 0) (y := (⟨ids, v1, ob1⟩ : Lm)) lsl1 lmC_len ha (by decide) (sl_sc sl) rfl fun w2 sl2 hk2 hz2 => ?_
  have k02 : Kp (fun b => ps[a].blk = some b ∨ b = lb) w w2 := (hk.mono fun b _ q => .inl q).trans (hk2.mono fun b _ q => .inr q)
  have nO : ∀ b, (ps[a].blk = some b ∨ b = lb) → O b := fun b q => q.elim (hOa b) fun q => q ▸ hO
  have blt : ∀ b, ob1 = some b → b < w2.heap.size := fun b e => by rw [e] at sl; have := sl.lt; omega
  refine hX w2 ⟨k02.row h.row fun q => ?_, h.cg.kp k02 fun b q r => h.gd b q (nO b r), h.rsl.kp k02 fun b e r => ?_, sl2, fun q hq => ?_, pw_set' h.pw fun i hi hne => ⟨fun b e r => ?_, fun b e r => ?_⟩, fun b q => ?_, fun q hq => ?_, fun b q r => ?_, fun b q => ?_⟩ (k02.mono fun b _ q => nO b q) hz2
  · rcases q with q | q
    · exact n3 _ hpa q
    · exact n2 (q ▸ rfl)
  · rcases r with r | r
    · exact (n5 _ hpa b r).1 e
    · exact n4 b e (by rw [r])
  · rcases mem_set hq with q2 | ⟨i, hi, hne, q2⟩
    · rw [q2]
      refine sl.kp hk2 fun b e (r : b = lb) => ?_
      rcases nb1 b e with r2 | r2
      · exact (n5 _ hpa b r2).2 (by rw [r])
      · have := olt lb hO; omega
    · rw [← q2]
      refine (h.line _ (List.getElem_mem hi)).kp k02 fun b e r => ?_
      rcases r with r | r
      · exact ap i hi hne b e r
      · exact (n5 _ (List.getElem_mem hi) b e).2 (by rw [r])
  · rcases nb1 b r with r | r
    · exact ap i hi hne b e r
    · have := olt b (h.own b (.inr (.inr (.inr ⟨_, List.getElem_mem hi, e⟩)))); omega
  · rcases nb1 b e with e | e
    · exact ap i hi hne b r e
    · have := olt b (h.own b (.inr (.inr (.inr ⟨_, List.getElem_mem hi, r⟩)))); omega
  · rcases q with q | q | q | ⟨x, hx, e⟩
    · exact .inl (h.own b (.inl q))
    · exact .inl (h.own b (.inr (.inl q)))
    · exact .inl (h.own b (.inr (.inr (.inl q))))
    · rcases mem_set hx with q2 | ⟨i, hi, hne, q2⟩
      · rw [q2] at e
        rcases nb1 b e with r | r
        · exact .inl (hOa b r)
        · exact .inr ⟨r, blt b e⟩
      · exact .inl (h.own b (.inr (.inr (.inr ⟨_, List.getElem_mem hi, by rw [q2]; exact e⟩))))
  · refine ((h.legs q hq).kp k02 fun b q r => ?_).mono fun b q => ⟨.inl q.1, fun r => ?_⟩
    · rcases r with r | r
      · exact q.2 (.inr (.inr (.inr ⟨_, hpa, r⟩)))
      · exact q.2 (.inr (.inr (.inl (by rw [r]))))
    · rcases r with r | r | r | ⟨x, hx, e⟩
      · exact q.2 (.inl r)
      · exact q.2 (.inr (.inl r))
      · exact q.2 (.inr (.inr (.inl r)))
      · rcases mem_set hx with q2 | ⟨i, hi, hne, q2⟩
        · rw [q2] at e
          rcases nb1 b e with r | r
          · exact q.2 (.inr (.inr (.inr ⟨_, hpa, r⟩)))
          · have := olt b q.1; omega
        · exact q.2 (.inr (.inr (.inr ⟨_, List.getElem_mem hi, by rw [q2]; exact e⟩)))
  · rcases r with r | r
    · exact h.gd b q r
    · have := h.lt b (.inr q); have := r.1; omega
  · have := hk2.size
    rcases q with (q | q) | q
    · have := olt b q; omega
    · exact q.2
    · have := h.lt b (.inr q); omega
set_option maxHeartbeats 2000000 in
theorem leaveM_ok (h : Mw O G w0 O' w m σ.ms) (g : SGd park σ) (hq : q.op = 7) (hK : MK O G w0 m K (chM q σ).1.ms (eR (chM q σ).2)) : cl Tryz.prog 93 #[P m 0, I q.id] K w := by
  have hm : Mk σ.ms := MG.mk ⟨_, g⟩
  have hlen := g.len
  have hmb : park.mb = 26 := rfl
  rw [hmb] at hlen
  have ev : valid park σ.now q = 0 := by
    unfold valid; rw [if_neg (by omega), if_neg (by omega), if_neg (by omega), if_neg (by omega), if_neg (by omega)]
  unfold chM apS tLeave tWithdraw at hK
  rw [if_pos ev, if_neg (by omega), if_neg (by omega), if_neg (by omega), if_neg (by omega), if_neg (by omega), if_neg (by omega), if_pos hq, hq] at hK
  apply c93
  unfold s93_p3
  refine known_ok (h.mr g) ?_
  simp only [e_not]
  by_cases hh : has σ.rs q.id
  case neg =>
    have e0 : (!decide (has σ.ms.rs q.id)) = true := by rw [decide_eq_false hh]; rfl
    simp only [e0, e_ift]
    simp only [if_neg hh, show ¬ ((2 : Int) = 0) by decide, if_false] at hK
    rw [eR_mvn (by simp)] at hK
    exact no_ok (by decide) (h.out hK)
  have e0 : (!decide (has σ.ms.rs q.id)) = false := by rw [decide_eq_true hh]; rfl
  simp only [e0, e_iff]
  simp only [if_pos hh] at hK
  obtain ⟨j, ej, hj⟩ := has_at hh
  have er := rget_at ej hj
  refine h.mo.recI ej hj (by show σ.rs.length ≤ 1000; omega) fun rb hq1 => ?_
  refine nk2 (fd2 (hq1.cell (s := σ.ms) hj (show 1 < 6 by decide) (x := I σ.rs[j].st) rfl ?_))
  simp only [e_neq]
  by_cases hst : σ.rs[j].st = 7
  case neg =>
    have a1 : (σ.rs[j].st != 7) = true := bne_iff_ne.2 hst
    simp only [a1, e_ift]
    simp only [er, if_neg hst, show ¬ ((8 : Int) = 0) by decide, if_false] at hK
    rw [eR_mvn (by simp)] at hK
    exact no_ok (by decide) (h.out hK)
  have a1 : (σ.rs[j].st != 7) = false := by rw [hst]; rfl
  simp only [a1, e_iff]
  simp only [er, if_pos hst, if_true] at hK
  rw [eR_mv0 (by decide), ← er, rset_st ej hj, rset_at ej, er] at hK
  have hsh := sh_wait (g.rc _ (List.getElem_mem hj)).sh hst (g.rn _ (List.getElem_mem hj)).ln.1
  have h3 : park.ats.length = 3 := rfl
  rw [h3] at hsh
  obtain ⟨a, ea⟩ : ∃ a : Nat, σ.rs[j].ln - 1 = (a : Int) := ⟨(σ.rs[j].ln - 1).toNat, by omega⟩
  have ha3 : a < 3 := by omega
  have hal : a < σ.ls.length := by rw [g.li.len]; exact ha3
  refine nk2 (fd2 (hq1.set (s := σ.ms) hj fun w2 h2 hk2 hz2 => ?_))
  have m2 := h.ofQ h2 hk2
  unfold s93_p2 s93_p2_d
  have kd : Kp Emp w2 (drw w2) := kp_drw
  generalize drw w2 = w3 at kd ⊢
  have m3 := m2.emp kd
  have q3 := h2.kp' kd
  have hj3 : j < (σ.rs.set j { σ.rs[j] with st := 4 }).length := by rw [List.length_set]; exact hj
  have eln : ((σ.rs.set j { σ.rs[j] with st := 4 })[j]).ln = σ.rs[j].ln := by rw [List.getElem_set_self]
  have rd : ∀ {Y : Value → World → Prop}, Y (I σ.rs[j].ln) w3 → ld1 (P rb (j * 7 + 4)) Y w3 := fun hY => q3.cell (s := ⟨σ.now, σ.rs.set j { σ.rs[j] with st := 4 }, σ.ls⟩) hj3 (show 4 < 6 by decide) (x := I σ.rs[j].ln) (by show some (I ((σ.rs.set j { σ.rs[j] with st := 4 })[j]).ln) = some (I σ.rs[j].ln); rw [eln]) hY
  obtain ⟨va, vt, rv, lv, lob, its, ps, x, e1, e2⟩ := q3
  replace e2 : ps.map Lm.ids = σ.ls := e2
  have hpl : ps.length = σ.ls.length := by rw [← e2, List.length_map]
  have hap : a < ps.length := by omega
  refine nk0 (fdp (ld1_r (v := lv) x.row rfl ?_))
  refine nk2 (fd2 (rd ?_))
  simp only [e_sub]
  rw [wrap64_id (by omega) (by omega), ea]
  refine nk0 (fdp (ld1_r (v := lv) x.row rfl ?_))
  refine nk2 (fd2 (rd ?_))
  simp only [e_sub]
  rw [wrap64_id (by omega) (by omega), ea]
  have hls5 := x.lsl
  cases hlob : lob with
  | none => rw [hlob] at hls5; obtain ⟨_, q⟩ := hls5; rw [q] at hap; simp at hap
  | some lb =>
    rw [hlob] at hls5
    subst hlob
    refine sl_ixp hls5 hap ?_
    refine sl_cell (j := 0) lmC_len hls5 hap (by decide) (x := ps[a].val) rfl ?_
    refine sl_ixp hls5 hap ?_
    have eids : ps[a].ids = σ.ls[a] := by
      have : (ps.map Lm.ids)[a]? = σ.ls[a]? := by rw [e2]
      rw [List.getElem?_map, List.getElem?_eq_getElem hap, List.getElem?_eq_getElem hal] at this
      exact Option.some.inj this
    have hll := hm.ll _ (List.getElem_mem (show a < σ.ms.ls.length from hal))
    have hll' : (σ.ls[a]).length ≤ 1000 := hll
    have hpl5 := x.line _ (List.getElem_mem hap)
    have hA5 : Ar iC 1 (fun b => b < w3.heap.size) w3 ps[a].val ps[a].ids := hpl5.ar iC_len (by rw [eids]; omega) fun b e => x.lt b (.inl (x.own b (.inr (.inr (.inr ⟨_, List.getElem_mem hap, e⟩)))))
    refine without_ok hA5 (fun b q => q) (by rw [eids]; omega) fun w6 v6 b6 sl6 hb6 hk6 => ⟨hk6.below', ?_⟩
    have x6 := x.kp (S := Emp) hk6 fun b q => q.elim
    have m6 := m3.emp hk6
    have b6lt := sl6.lt
    refine x6.setLine (p := ⟨ps[a].ids.filter (· != q.id), v6, some b6⟩) rfl hap sl6 (fun b e => by
      have e := Option.some.inj e
      subst e
      refine ⟨fun q => ?_, fun q => ?_⟩
      · have := x.lt b6 (.inl q); omega
      · have := x.lt b6 (.inr q); omega) fun w7 x7 hk7 hz7 => ?_
    unfold s93_p1
    have s3 := m3.k.size
    have m7 : Mw O G w0 (fun b => O' b ∨ some b6 = some b) w7 m ⟨σ.now, σ.rs.set j { σ.rs[j] with st := 4 }, tRemove q.id σ.ls⟩ := by
      refine m6.upd ⟨va, vt, rv, lv, some rb, some lb, its, _, x7, e1, ?_⟩ (hk7.mono fun b _ q => x.own b q) (fun b q => .inl q) fun b q => q.imp id fun q => by
        have q := Option.some.inj q
        exact ⟨by omega, by omega⟩
      show (ps.set a _).map Lm.ids = tRemove q.id σ.ls
      rw [List.map_set, e2]
      show σ.ls.set a (ps[a].ids.filter (· != q.id)) = tRemove q.id σ.ls
      rw [eids]
      exact rem_eq g hal (by rw [er]; omega)
    exact yes_1 m7 ⟨by decide, by decide⟩ hK
end
end Go.Proofs.Qxb6500896aGreat
