import Derived.Test.Qxb6500896aGreatM10
import Derived.Test.Qxb6500896aGreatN25
namespace Go.Proofs.Qxb6500896aGreat
open Go.Sh Go.RowKit
set_option linter.unusedVariables false
set_option linter.unusedSimpArgs false

theorem nk2 {K : Value → World → Prop} {w : World} {n o : Nat} (h : K (P n o) w) : nck (P n o) K w := h
theorem fd2 {K : Value → World → Prop} {w : World} {n o m : Nat} (h : K (P n (o + m)) w) : fd m (P n o) K w := by
  simp only [e_fd]; exact h
theorem sl_cell {α : Type} {f : α → List Value} {k : Nat} {w : World} {e : TypeId} {b : Nat} {v x : Value} {xs : List α} {i j : Nat} {K : Value → World → Prop} (hk : ∀ x, (f x).length = k) (h : Sl f k w e (some b) v xs) (hi : i < xs.length) (hj : j < k) (hx : (f xs[i])[j]? = some x) (hK : K x w) : ld1 (P b (i * k + j)) K w := by
  obtain ⟨cap, junk, h1, h2, h3, h4⟩ := h
  have hrl := rows_length hk xs
  refine ld1_r h4 ?_ hK
  have hle : i * k + k ≤ xs.length * k := by
    have : (i + 1) * k ≤ xs.length * k := Nat.mul_le_mul_right _ hi
    rw [Nat.succ_mul] at this
    exact this
  rw [List.getElem?_append_left (by rw [hrl]; omega), rows_get hk xs i hi j hj]
  exact hx
theorem pw_set {α : Type} {R : α → α → Prop} {p : α} : ∀ {l : List α} {a : Nat}, l.Pairwise R → (∀ q ∈ l, R q p ∧ R p q) → (l.set a p).Pairwise R
  | [], _, h, _ => h
  | x :: l, 0, h, hp => by
    rw [List.set_cons_zero]
    rw [List.pairwise_cons] at h ⊢
    exact ⟨fun y hy => (hp y (List.mem_cons_of_mem _ hy)).2, h.2⟩
  | x :: l, a + 1, h, hp => by
    rw [List.set_cons_succ]
    rw [List.pairwise_cons] at h ⊢
    refine ⟨fun y hy => ?_, pw_set h.2 fun q hq => hp q (List.mem_cons_of_mem _ hq)⟩
    rcases List.mem_or_eq_of_mem_set hy with q | q
    · exact h.1 y q
    · rw [q]; exact (hp x List.mem_cons_self).1
section
variable {O G O2 O' S F : Nat → Prop} {w w' : World} {m c : Nat} {now : Int} {va vt rv lv v : Value} {rob lob : Option Nat} {its : List (Rec × Value)} {ps : List Lm} {s s2 : Ms} {K : Value → World → Prop} {X : World → Prop} {ids : List Int} {id slot : Int}
/-- a line is set -/
theorem Mx.setLine {a lb : Nat} {p : Lm} (h : Mx O G w m now va vt rv lv rob lob its ps) (hlb : lob = some lb) (ha : a < ps.length) (hp : Sl iC 1 w 3 p.blk p.val p.ids) (hb : ∀ b, p.blk = some b → ¬ O b ∧ ¬ G b)
    (hX : ∀ w', Mx (fun b => O b ∨ p.blk = some b) G w' m now va vt rv lv rob lob its (ps.set a p) → Kp (Bm m rob lob ps) w w' → w'.heap.size = w.heap.size → X w') : st1 (P lb (a * 1)) p.val X w := by
  obtain ⟨n1, n2, n3, n4, n5⟩ := h.nm
  have hO := h.own lb (.inr (.inr (.inl hlb)))
  have hsl := h.lsl
  rw [hlb] at hsl
  refine sl_upd (j := 0) (y := p) hsl lmC_len ha (by decide) (sl_sc hp) rfl fun w1 sl1 hk1 hz1 => ?_
  have pnl : p.blk ≠ some lb := fun e => (hb lb e).1 hO
  refine hX w1 ⟨hk1.row h.row fun (q : m = lb) => n2 (by rw [q]; exact hlb), h.cg.kp hk1 fun b q (r : b = lb) => h.gd b q (r ▸ hO), h.rsl.kp hk1 fun b e (q : b = lb) => n4 b e (by rw [hlb, q]), by rw [hlb]; exact sl1, fun q hq => ?_, pw_set h.pw fun q hq => ⟨fun b e r => (hb b r).1 (h.own b (.inr (.inr (.inr ⟨q, hq, e⟩)))), fun b e r => (hb b e).1 (h.own b (.inr (.inr (.inr ⟨q, hq, r⟩))))⟩, fun b q => ?_, fun q hq => ?_, fun b q r => r.elim (h.gd b q) fun r => (hb b r).2 q, fun b q => ?_⟩ (hk1.mono fun b _ (q : b = lb) => .inr (.inr (.inl (by rw [hlb, q])))) hz1
  · rcases List.mem_or_eq_of_mem_set hq with r | r
    · exact (h.line q r).kp hk1 fun b e (q2 : b = lb) => (n5 q r b e).2 (by rw [hlb, q2])
    · rw [r]; exact hp.kp hk1 fun b e (q2 : b = lb) => pnl (by rw [e, q2])
  · rcases q with q | q | q | ⟨q, hq, e⟩
    · exact .inl (h.own b (.inl q))
    · exact .inl (h.own b (.inr (.inl q)))
    · exact .inl (h.own b (.inr (.inr (.inl q))))
    · rcases List.mem_or_eq_of_mem_set hq with r | r
      · exact .inl (h.own b (.inr (.inr (.inr ⟨q, r, e⟩))))
      · rw [r] at e; exact .inr e
  · refine ((h.legs q hq).kp hk1 fun b q (r : b = lb) => q.2 (.inr (.inr (.inl (by rw [hlb, r]))))).mono fun b q => ⟨.inl q.1, fun r => ?_⟩
    rcases r with r | r | r | ⟨x, hx, e⟩
    · exact q.2 (.inl r)
    · exact q.2 (.inr (.inl r))
    · exact q.2 (.inr (.inr (.inl r)))
    · rcases List.mem_or_eq_of_mem_set hx with r | r
      · exact q.2 (.inr (.inr (.inr ⟨x, r, e⟩)))
      · rw [r] at e; exact (hb b e).1 q.1
  · rcases q with (q | q) | q
    · have := h.lt b (.inl q); omega
    · cases hpb : p.blk with
      | none => rw [hpb] at q; cases q
      | some b' =>
        rw [hpb] at q
        cases q
        rw [hpb] at hp
        have := hp.lt
        omega
    · have := h.lt b (.inr q); omega
/-- a line without an id -/
theorem without_ok (h : Ar iC 1 F w v ids) (hF : ∀ b, F b → b < w.heap.size) (hl : ids.length ≤ 1000000) (hK : NumK w K (ids.filter (· != id))) : cl Tryz.prog 150 #[v, I id] K w := by
  apply c150
  unfold s150_p5
  refine Sl.empty (f := iC) (k := 1) (e := 3) fun w1 sl1 hk1 hz1 => ?_
  refine h.ln ?_
  unfold s150_p4
  refine loop_n ids.length (fun i l w' => ∃ v' b, l = [I id, v', v, I (ids.length : Nat), I (i : Nat)] ∧ Sl iC 1 w' 3 (some b) v' ((ids.take i).filter (· != id)) ∧ w.heap.size ≤ b ∧ Kp Emp w w') ⟨_, _, rfl, sl1, Nat.le_refl _, hk1⟩ ?_ ?_
  · rintro i l w2 hi ⟨v2, b2, rfl, sl2, hb2, k2⟩ B hB
    rw [s150_p4_Fe]
    unfold s150_p3
    simp only [dlt hi, e_lss, e_ift]
    refine (h.kp' k2).ix hi fun b1 o1 _ c1 => ?_
    refine c1.ld0 (v := I ids[i]) rfl ?_
    have hfl : ((ids.take i).filter (· != id)).length ≤ 1000000 := Nat.le_trans (List.length_filter_le _ _) (by rw [List.length_take]; omega)
    simp only [e_neq]
    cases hq : (ids[i] != id) with
    | true =>
      simp only [e_ift]
      refine sl2.app iC_len rfl ids[i] rfl (by omega) (by omega) rfl fun w3 v3 ob3 sl3 hk3 ho3 => ?_
      have s2 := k2.size
      have hb3 : ∃ b3, ob3 = some b3 ∧ w.heap.size ≤ b3 := by
        rcases ho3 with q | ⟨c, q, hc⟩
        · exact ⟨_, q, hb2⟩
        · exact ⟨c, q, by omega⟩
      obtain ⟨b3, rfl, hb3⟩ := hb3
      unfold s150_p2
      simp only [e_add]
      rw [inc i (by omega)]
      refine hB _ _ ⟨v3, b3, rfl, ?_, hb3, k2.then hk3 fun b hb e => by cases e; omega⟩
      rw [List.take_succ_eq_append_getElem hi, List.filter_append, List.filter_cons, hq]
      exact sl3
    | false =>
      simp only [e_iff]
      unfold s150_p2
      simp only [e_add]
      rw [inc i (by omega)]
      refine hB _ _ ⟨v2, b2, rfl, ?_, hb2, k2⟩
      rw [List.take_succ_eq_append_getElem hi, List.filter_append, List.filter_cons, hq]
      simpa using sl2
  · rintro l w2 ⟨v2, b2, rfl, sl2, hb2, k2⟩ B
    rw [s150_p4_Fe]
    unfold s150_p3
    simp only [dnlt, e_lss, e_iff]
    unfold s150_p1
    rw [List.take_length] at sl2
    exact hK w2 v2 b2 sl2 hb2 k2
/-- the state after an issue -/
def issM (s : Ms) (id slot : Int) : Ms := ⟨s.now, rset s.rs id { rget s.rs id with st := 8, legs := [⟨(rget s.rs id).ln - 1, slot⟩] }, s.ls.set ((rget s.rs id).ln - 1).toNat ((lnOf s.ls ((rget s.rs id).ln - 1)).filter (· != id))⟩
set_option maxHeartbeats 2000000 in
theorem issued_ok (h : Mo O G w m s) (hm : Mk s) (hid : has s.rs id) (hln : 1 ≤ (rget s.rs id).ln ∧ (rget s.rs id).ln ≤ 3)
    (hK : ∀ w' c, Mo (Nb w w') G w' c (issM s id slot) → Kp Emp w w' → K (P c 0) w') : cl Tryz.prog 152 #[P m 0, I id, I slot] K w := by
  have hlen := hm.vk.len
  have hGl := h.lt
  obtain ⟨j, ej, hj⟩ := has_at hid
  have er := rget_at ej hj
  unfold issM at hK
  rw [er] at hln hK
  rw [rset_at ej] at hK
  obtain ⟨a, ea⟩ : ∃ a : Nat, s.rs[j].ln - 1 = (a : Int) := ⟨(s.rs[j].ln - 1).toNat, by omega⟩
  have ha3 : a < 3 := by omega
  rw [ea] at hK
  apply c152
  unfold s152_p3
  refine mclone_ok h hm fun w1 c h1 hk1 => ?_
  obtain ⟨va, vt, rv, lv, rob, lob, its, ps, x, e1, e2⟩ := h1
  have hil : its.length = s.rs.length := by rw [← e1, List.length_map]
  have hpl : ps.length = s.ls.length := by rw [← e2, List.length_map]
  have hj2 : j < its.length := by omega
  have ei : its[j].1 = s.rs[j] := by
    have : (its.map (·.1))[j]? = s.rs[j]? := by rw [e1]
    rw [List.getElem?_map, List.getElem?_eq_getElem hj2, List.getElem?_eq_getElem hj] at this
    exact Option.some.inj this
  refine nk0 (fdp (ld1_r (v := rv) x.row rfl ?_))
  simp only [e_sub]
  rw [wrap64_id (by omega) (by omega), show id - 1 = ((j : Nat) : Int) by omega]
  have hsl := x.rsl
  cases hrob : rob with
  | none => rw [hrob] at hsl; obtain ⟨_, q⟩ := hsl; rw [q] at hj2; simp at hj2
  | some rb =>
    rw [hrob] at hsl
    refine sl_ixp hsl hj2 ?_
    subst hrob
    refine nk2 (fd2 ?_)
    refine sl_cell rC_len hsl hj2 (by decide : 4 < 7) (x := I its[j].1.ln) rfl ?_
    rw [ei]
    simp only [e_sub]
    rw [wrap64_id (by omega) (by omega), ea]
    refine nk2 (fd2 ?_)
    have hlg := x.legs _ (List.getElem_mem hj2)
    refine x.setRec (y := ({ its[j].1 with st := 8 }, its[j].2)) rfl hj2 (by decide : 1 < 7) rfl rfl hlg fun w2 x2 hk2 hz2 => ?_
    refine bdq_r leg_fill ?_
    refine leg_new fun w3 a3 hk3 hz3 => ?_
    refine nk2 (fd2 ?_)
    have x3 := x2.grow hk3
    have hj4 : j < (its.set j ({ its[j].1 with st := 8 }, its[j].2)).length := by rw [List.length_set]; exact hj2
    have s1 := hk1.size
    have hl3 : Ar lC 2 (fun b => (Nb w w1 b ∨ Nb w2 w3 b) ∧ ¬ Bm c (some rb) lob ps b) w3 (.slice (some ⟨w2.heap.size, 0, none⟩) 1 1) [⟨((a : Nat) : Int), slot⟩] := a3.mono fun b (q : b = w2.heap.size) => ⟨.inr ⟨by omega, by omega⟩, fun r => by have := x.lt b (.inl (x.own b r)); omega⟩
    refine x3.setRec (y := ({ its[j].1 with st := 8, legs := [⟨((a : Nat) : Int), slot⟩] }, .slice (some ⟨w2.heap.size, 0, none⟩) 1 1)) rfl hj4 (by decide : 6 < 7) rfl (by rw [List.getElem_set_self]; rfl) hl3 fun w4 x4 hk4 hz4 => ?_
    rw [List.set_set] at x4
    unfold s152_p2 s152_p2_d
    have kd : Kp Emp w4 (drw w4) := kp_drw
    have szd : (drw w4).heap.size = w4.heap.size := rfl
    generalize drw w4 = w5 at kd szd ⊢
    have x5 := x4.grow kd
    refine nk0 (fdp (ld1_r (v := lv) x5.row rfl ?_))
    refine nk0 (fdp (ld1_r (v := lv) x5.row rfl ?_))
    have hln3 := hm.ln
    have hap : a < ps.length := by omega
    have hls5 := x5.lsl
    cases hlob : lob with
    | none => rw [hlob] at hls5; obtain ⟨_, q⟩ := hls5; rw [q] at hap; simp at hap
    | some lb =>
      rw [hlob] at hls5
      subst hlob
      refine sl_ixp hls5 hap ?_
      refine sl_cell (j := 0) lmC_len hls5 hap (by decide) (x := ps[a].val) rfl ?_
      refine sl_ixp hls5 hap ?_
      have eids : ps[a].ids = s.ls[a]'(by omega) := by
        have : (ps.map Lm.ids)[a]? = s.ls[a]? := by rw [e2]
        rw [List.getElem?_map, List.getElem?_eq_getElem hap, List.getElem?_eq_getElem (by omega)] at this
        exact Option.some.inj this
      have hll := hm.ll _ (List.getElem_mem (show a < s.ls.length by omega))
      have hpl5 := x5.line _ (List.getElem_mem hap)
      have hA5 : Ar iC 1 (fun b => b < w5.heap.size) w5 ps[a].val ps[a].ids := hpl5.ar iC_len (by rw [eids]; omega) fun b e => x5.lt b (.inl (x5.own b (.inr (.inr (.inr ⟨_, List.getElem_mem hap, e⟩)))))
      refine without_ok hA5 (fun b q => q) (by rw [eids]; omega) fun w6 v6 b6 sl6 hb6 hk6 => ⟨hk6.below', ?_⟩
      have x6 := x5.kp (S := Emp) hk6 fun b q => q.elim
      have k16 : Kp (Nb w w1) w1 w5 := by
        have k12 : Kp (Nb w w1) w1 w2 := hk2.mono fun b _ q => x.own b q
        have k34 : Kp (Nb w w1) w3 w4 := hk4.mono fun b _ q => by
          rcases x3.own b q with r | r
          · exact r
          · exfalso
            have := x.own b q
            have := this.2
            have := r.1
            omega
        exact ((k12.trans hk3.none).trans k34).trans kd.none
      refine x6.setLine (p := ⟨ps[a].ids.filter (· != id), v6, some b6⟩) rfl hap sl6 (fun b e => by
        have e := Option.some.inj e
        subst e
        refine ⟨fun q => ?_, fun q => ?_⟩
        · have := x5.lt b6 (.inl q); omega
        · have := x5.lt b6 (.inr q); omega) fun w7 x7 hk7 hz7 => ?_
      unfold s152_p1
      have s6 := hk6.size
      have s15 := k16.size
      have k07 : Kp Emp w w7 := ((hk1.then k16 fun b hb q => by have := q.1; omega).trans hk6).then hk7 fun b hb q => by
        have := x.own b q
        have := this.1
        omega
      have s7 := k07.size
      have b6lt := sl6.lt
      refine hK w7 c ⟨va, vt, rv, lv, some rb, some lb, _, _, x7.sup (O' := Nb w w7) (fun b q => ?_) (fun b q r => ?_) (fun b q => q.2), ?_, ?_⟩ k07
      · rcases q with ((q | q) | q) | q
        · exact ⟨q.1, by have := q.2; omega⟩
        · exact ⟨by have := q.1; omega, by have := q.2; omega⟩
        · exact ⟨by have := q.1; omega, by have := q.2; omega⟩
        · have q := Option.some.inj q
          exact ⟨by omega, by omega⟩
      · have := hGl b (.inr q); have := r.1; omega
      · rw [List.map_set, e1, ei]
      · rw [List.map_set, e2]
        have el : lnOf s.ls ((a : Nat) : Int) = s.ls[a]'(by omega) := lnOf_at (by omega)
        show s.ls.set a (ps[a].ids.filter (· != id)) = s.ls.set (((a : Nat) : Int)).toNat ((lnOf s.ls ((a : Nat) : Int)).filter (· != id))
        rw [el, eids, show (((a : Nat) : Int)).toNat = a by omega]
end
end Go.Proofs.Qxb6500896aGreat
