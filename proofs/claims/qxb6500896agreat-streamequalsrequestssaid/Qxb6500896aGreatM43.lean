import Derived.Test.Qxb6500896aGreatM42
namespace Go.Proofs.Qxb6500896aGreat
open Go.Sh Go.RowKit
set_option linter.unusedVariables false
set_option linter.unusedSimpArgs false

theorem fR_take : ∀ {l : List (List Int)} {k : Nat}, (fR (l.take k)).length ≤ (fR l).length
  | [], k => by simp
  | o :: l, 0 => by simp [fR]
  | o :: l, k + 1 => by
    have := fR_take (l := l) (k := k)
    rw [List.take_succ_cons]
    simp only [fR, List.length_append]
    omega
theorem fR_mem : ∀ {l : List (List Int)} {o : List Int}, o ∈ l → o.length ≤ (fR l).length
  | [], o, h => by cases h
  | a :: l, o, h => by
    simp only [fR, List.length_append]
    rcases List.mem_cons.1 h with e | e
    · rw [e]; omega
    · have := fR_mem e; omega
section
variable {O G F S V V' N M : Nat → Prop} {W w w' w0 w1 : World} {r e m c pos : Nat} {v v1 v2 qv x pv bv' : Value} {l : List Value} {K : Value → World → Prop} {B1 : List Value → World → Prop} {bs d R p xs ys : List Int} {bss Bd : List (List Int)} {ob ob2 : Option Nat} {vals : List Value} {skip : Int} {br : Bool} {σ : Sg} {J : Jr}
/-- a new connection -/
theorem newConn_ok (hK : ∀ w1, Cn w1 w.heap.size e none nilS [] 0 false → Kp Emp w w1 → w1.heap.size = w.heap.size + 1 → K (P w.heap.size 0) w1) : cl Tryz.prog 52 #[P e 0] K w := by
  apply c52
  unfold s52_p1
  refine bdq_r (l := [P e 0, nilS, I 0, .bool false]) rfl ?_
  refine nw_r fun w1 r1 hk1 hz1 => ?_
  exact hK w1 ⟨r1, ⟨rfl, rfl⟩⟩ hk1 hz1
/-- what waits in a connection -/
theorem pend_ok (h : Cn w c e ob bv' d skip br) (hK : K (I (d.length : Nat)) w) : cl Tryz.prog 55 #[P c 0] K w := by
  apply c55
  unfold s55_p1
  refine nk0 (fdp (ld1_r (v := bv') h.row rfl ?_))
  exact h.sl.ln hK
/-- a frame is appended -/
theorem appF_ok (h : Sl bC 1 w 5 ob v ys) (hx : Ar bC 1 F w x xs) (hF : ∀ b, F b → ob ≠ some b) (hl : ys.length ≤ 1000000000) (hxl : xs.length ≤ 1000000000) (hK : AppK w ob (ys ++ (uI ((xs.length : Nat) : Int) ++ xs)) K) : cl Tryz.prog 53 #[v, x] K w := by
  apply c53
  unfold s53_p1
  refine hx.ln ?_
  refine appN_ok h hl (by omega) fun w1 v1 ob1 sl1 hk1 ho1 => ?_
  have hx1 := hx.kp hk1 fun b q r => hF b q r
  have hz1 := hk1.size
  have hu := uv_len (x := xs.length)
  refine Sl.app3 bC_len rfl (fun _ _ => rfl) sl1 (hx1.rds bC_len) (by rw [List.length_append]; omega) (by rw [List.length_append]; omega) fun w2 v2 ob2 sl2 hk2 ho2 => ?_
  refine hK w2 v2 ob2 (by rw [← List.append_assoc]; exact sl2) (hk1.then hk2 fun b hb q => ?_) ?_
  · rcases ho1 with h1 | ⟨b', h1, h2⟩
    · rw [← h1]; exact q
    · rw [h1] at q
      have := Option.some.inj q
      omega
  · rcases ho2 with h1 | ⟨b', h1, h2⟩
    · rcases ho1 with h3 | ⟨b', h3, h4⟩
      · exact .inl (h1.trans h3)
      · exact .inr ⟨b', h1.trans h3, h4⟩
    · exact .inr ⟨b', h1, by omega⟩
/-- the empty part of a slice of one's own -/
theorem sl_zero (h : Sl bC 1 w 5 ob v xs) (hK : ∀ v', Sl bC 1 w 5 ob v' [] → K v' w') : sls 1 v none (some (I 0)) K w' := by
  cases ob with
  | none =>
    obtain ⟨rfl, rfl⟩ := h
    refine sls_mk (l := 0) (h := 0) rfl rfl ⟨by decide, by decide, by decide⟩ ?_
    exact hK _ ⟨rfl, rfl⟩
  | some b =>
    obtain ⟨cap, junk, rfl, h2, h3, h4⟩ := h
    refine sls_mk (l := 0) (h := 0) rfl rfl ⟨by decide, by decide, by omega⟩ ?_
    have ea : (if cap = (0 : Int).toNat then some (⟨b, 0, none⟩ : Addr) else (some (⟨b, 0, none⟩ : Addr)).map (·.add ((0 : Int).toNat * 1))) = some ⟨b, 0, none⟩ := by
      split
      · rfl
      · show some ((⟨b, 0, none⟩ : Addr).add 0) = _
        rw [add_mk]
    rw [ea]
    have hlr := rows_length bC_len xs
    refine hK _ ⟨cap, rows bC xs ++ junk, rfl, Nat.zero_le _, ?_, h4⟩
    rw [List.length_append, hlr, h3]
    simp only [List.length_nil]
    omega
abbrev FdK (W w : World) (V : Nat → Prop) (r e c : Nat) (ob : Option Nat) (σ : Sg) (R p : List Int) (n : Nat) (K : Value → World → Prop) : Prop :=
  ∀ w' ov oo (S N : Nat → Prop) Bd R' d' ob' bv'' skip' br' σ' J' out, Lz W (fun b => V b ∨ N b) w' r e σ' J' → (∀ b, N b → w.heap.size ≤ b ∧ b < w'.heap.size) → Jlm 48 72 1200 J' → σ'.seq ≤ σ.seq + ((Bd.length : Nat) : Int) → Cn w' c e ob' bv'' d' skip' br' → (∀ b, ob' = some b → ob = some b ∨ N b) → Sl bC 1 w' 5 oo ov out → (∀ b, oo = some b → N b ∧ ob' ≠ some b) → Kp S w w' → (∀ b, V b → b ≠ c → ob ≠ some b → ¬ S b) → (∀ b, b < W.heap.size → ¬ S b) → By d' → Rn Bd σ.ms out σ'.ms → Bd.length ≤ n + 1 → ((br' = false ∧ Fr (R ++ p) Bd R' false ∧ VR R' d' skip' ∧ Wt d' skip') ∨ (br' = true ∧ Fr (R ++ p) Bd [] true ∧ d' = [])) → K ov w'
set_option maxHeartbeats 4000000 in
theorem feed_ok (z : Lz W V w r e σ J) (jl : Jlm 48 72 1200 J) (hs : σ.seq + 100000 ≤ 1000000000000) (hc : Cn w c e ob bv' d skip false) (Vc : V c) (Vo : ∀ b, ob = some b → V b) (hp : Ar bC 1 F w pv p) (hF : ∀ b, F b → b < w.heap.size ∧ ob ≠ some b) (hd : By d) (hpb : By p) (hl : d.length + p.length ≤ 70000) (hv : VR R d skip)
    (hK : FdK W w V r e c ob σ R p (d.length + p.length) K) : cl Tryz.prog 54 #[P c 0, pv] K w := by
  have hge := z.ge
  have hlt := z.lt
  apply c54
  unfold s54_p5
  refine nk0 (fdp (ld1_r (v := .bool false) hc.row rfl ?_))
  simp only [e_iff]
  refine nk0 (fdp (ld1_r (v := bv') hc.row rfl ?_))
  refine Sl.app3 bC_len rfl (fun _ _ => rfl) hc.sl (hp.rds bC_len) (by omega) (by omega) fun w1 v1 ob1 sl1 hk1 ho1 => ?_
  have r1 := hk1.row hc.row fun q => hc.ne c q rfl
  have hz1 := hk1.size
  have hcl := hc.row.lt
  refine nk0 (fdp (st1_r r1 (show 1 < 4 by decide) (sl_scal sl1) fun w2 r2 hk2 hz2 => ?_))
  replace r2 : Row w2 c 174 [P e 0, v1, I skip, .bool false] := r2
  have hob1 : ∀ b, ob1 = some b → (ob = some b ∨ w.heap.size ≤ b) := fun b q => by
    rcases ho1 with h1 | ⟨b', h1, h2⟩
    · exact .inl (h1 ▸ q)
    · rw [h1] at q
      have := Option.some.inj q
      exact .inr (by omega)
  have hob1c : ∀ b, ob1 = some b → b ≠ c := fun b q q2 => by
    rcases hob1 b q with h | h
    · exact hc.ne b h q2
    · omega
  have cn2 : Cn w2 c e ob1 v1 (d ++ p) skip false := ⟨r2, sl1.kp hk2 fun b q (q2 : b = c) => hob1c b q q2⟩
  refine split_ok cn2 (hd.app hpb) (by rw [List.length_append]; omega) hv.app fun w3 qv ob2 vals Bd R' n skip' br hn cn3 q3 hob2 hk3 hBd hst => ?_
  rw [List.length_append] at hBd hn
  simp only [ex2_0, ex2_1]
  refine nk0 (fdp (ld1_r (v := P e 0) cn3.row rfl ?_))
  have k2 : Kp (fun b => b = c ∨ ob = some b) w w2 := (hk1.mono fun b _ q => .inr q).then hk2 fun b _ q => .inl q
  have k3 : Kp (fun b => b = c ∨ ob = some b) w w3 := k2.then hk3 fun b _ q => .inl q
  have z3 := z.gro k3 fun b q => by
    rcases q with q | q
    · rw [q]; exact Vc
    · exact Vo b q
  have hz2' := k2.size
  have hz3 := hk3.size
  have hob1l : ∀ b, ob1 = some b → b < w1.heap.size := fun b q => by
    rw [q] at sl1; exact sl1.lt
  have hob2l : ∀ b, ob2 = some b → b < w3.heap.size := fun b q => by
    have := q3.sl
    rw [q] at this; exact this.lt
  have hbl : (Bd.map nb).length = Bd.length := List.length_map ..
  have hs3 : σ.seq + (((Bd.map nb).length : Nat) : Int) ≤ 1000000000000 := by omega
  have hVo1 : ∀ b, ob1 = some b → V b ∨ Nb w w3 b := fun b q => by
    rcases hob1 b q with h | h
    · exact .inl (Vo b h)
    · exact .inr ⟨h, by have := hob1l b q; omega⟩
  obtain ⟨s1, s2, s3, s4, s5, s6⟩ := bat_setL z.i jl q3.by_ hs3
  have rn := bat_rn z.i jl q3.by_ hs3
  refine z3.hbat jl hs3 (q3.rwb hk3 (fun b q q2 => hob1c b q q2) (by omega)) (fun b q => ?_) q3.by_ (by omega) fun w4 v4 rb S4 N4 z4 rp nrb hN4 hk4 hS4 hW4 => ?_
  · rcases q with q | q
    · exact .inl (.inr ⟨by have := hob2 b q; omega, hob2l b q⟩)
    · exact .inl (hVo1 b q)
  rw [s6] at rp
  rw [← s4] at rn
  have hrl := rn.len
  rw [hbl] at hrl s5
  have rn' : Rn Bd σ.ms _ _ := rn.nb
  clear rn
  generalize (stbL park (Bd.map nb) σ J).2.2.map eR = outs at rp hrl rn'
  generalize batS park (Bd.map nb) σ J = y at z4 s1 s2 s3 s5 rn'
  obtain ⟨rvals, rsl, rln, rat⟩ := rp
  have hz4 := hk4.size
  have cn4 : Cn w4 c e ob1 v1 (d ++ p) skip' br := cn3.kp hk4 (hS4 c (.inl Vc)) fun b q => hS4 b (hVo1 b q)
  refine rsl.ln ?_
  unfold s54_p4
  have ho2 : outs.length ≤ (fR outs).length ∨ True := .inr trivial
  have hfl : (fR outs).length ≤ 800000000 := by omega
  have hrl2 : rvals.length ≤ 140737488355328 := by
    have : ∀ (l : List (List Int)), l.length ≤ (fR l).length := fun l => by
      induction l with
      | nil => simp
      | cons o l ih =>
        have := uv_pos (x := o.length)
        have e : uI ((o.length : Nat) : Int) = uv o.length := rfl
        simp only [fR, List.length_append, List.length_cons, e]
        omega
    have := this outs
    omega
  refine loop_n rvals.length (fun i l w' => ∃ ov oo, l = [P c 0, I (n : Nat), ov, v4, I (rvals.length : Nat), I (i : Nat)] ∧ Sl bC 1 w' 5 oo ov (fR (outs.take i)) ∧ Kp Emp w4 w' ∧ ∀ b, oo = some b → w4.heap.size ≤ b) ⟨nilS, none, rfl, ⟨rfl, by simp [fR]⟩, Kp.refl _ _, fun b q => by cases q⟩ ?_ ?_
  · rintro i l w5 hi ⟨ov, oo, rfl, so, hk5, ho5⟩ B hB
    rw [s54_p4_Fe]
    unfold s54_p3
    simp only [dlt hi, e_lss, e_ift]
    have hi2 : i < outs.length := by omega
    have rA : Ar one 1 (fun b => b = rb) w5 v4 rvals := (rsl.kp' hk5).ar one_len (by omega) fun b e => (Option.some.inj e).symm
    refine rA.ix hi fun b o _ cc => ?_
    refine cc.ld0 (v := rvals[i]) rfl ?_
    have hxi := (rat i hi hi2).kp' hk5
    have f1 := fR_take (l := outs) (k := i)
    have f2 := fR_mem (List.getElem_mem hi2)
    refine appF_ok so hxi (fun b q q2 => ?_) (by omega) (by omega) fun w6 v6 ob6 sl6 hk6 ho6 => ?_
    · have := ho5 b q2
      have := (hN4 b q.1).2
      omega
    · simp only [e_add]
      rw [inc i (by omega)]
      have hz5 := hk5.size
      refine hB _ _ ⟨v6, ob6, rfl, ?_, hk5.then hk6 fun b hb q => ?_, fun b q => ?_⟩
      · rw [List.take_succ_eq_append_getElem hi2, fR_app]; exact sl6
      · have := ho5 b q; omega
      · rcases ho6 with h1 | ⟨b', h1, h2⟩
        · exact ho5 b (h1 ▸ q)
        · rw [h1] at q
          have := Option.some.inj q
          omega
  · rintro l w5 ⟨ov, oo, rfl, so, hk5, ho5⟩ B
    rw [s54_p4_Fe]
    unfold s54_p3
    simp only [dnlt, e_lss, e_iff]
    unfold s54_p2
    rw [rln, List.take_length] at so
    have kd : Kp Emp w5 (drw w5) := kp_drw
    generalize drw w5 = w6 at kd ⊢
    have hk6 := hk5.trans kd
    have hz5 := hk5.size
    have hz6 := hk6.size
    have so6 := so.kp' kd
    have cn6 := cn4.kp hk6 (fun q => q) fun _ _ q => q
    unfold s54_p2_d
    refine nk0 (fdp (ld1_r (v := v1) cn6.row rfl ?_))
    refine sl_zero cn6.sl fun v7 sl7 => ?_
    refine nk0 (fdp (ld1_r (v := v1) cn6.row rfl ?_))
    have a6 : Ar bC 1 (fun b => ob1 = some b) w6 v1 (d ++ p) := cn6.sl.ar bC_len (by rw [List.length_append]; omega) fun b e => e
    refine a6.sub (lo := n) (hi := (d ++ p).length) (by rw [List.length_append]; exact hn) (Nat.le_refl _) (lov := some (I (n : Nat))) (hiv := none) rfl (fun a c e => rfl) fun u a7 => ?_
    rw [List.take_of_length_le (by rw [List.length_drop]; omega)] at a7
    refine nk0 (fdp ?_)
    refine Sl.app3 bC_len rfl (fun _ _ => rfl) sl7 (a7.rds bC_len) (by simp only [List.length_nil, List.length_drop, List.length_append]; omega) (by simp only [List.length_nil, List.length_drop, List.length_append]; omega) fun w8 v8 ob8 sl8 hk8 ho8 => ?_
    rw [List.nil_append] at sl8
    have r8 := hk8.row cn6.row fun q => hob1c c q rfl
    have hz8 := hk8.size
    refine st1_r r8 (show 1 < 4 by decide) (sl_scal sl8) fun w9 r9 hk9 hz9 => ?_
    replace r9 : Row w9 c 174 [P e 0, v8, I skip', .bool br] := r9
    unfold s54_p1
    have hob8 : ∀ b, ob8 = some b → (ob1 = some b ∨ w6.heap.size ≤ b) := fun b q => by
      rcases ho8 with h1 | ⟨b', h1, h2⟩
      · exact .inl (h1 ▸ q)
      · rw [h1] at q
        have := Option.some.inj q
        exact .inr (by omega)
    have hz9' := hk9.size
    have hob8c : ∀ b, ob8 = some b → b ≠ c := fun b q q2 => by
      rcases hob8 b q with h | h
      · exact hob1c b h q2
      · omega
    have hob8l : ∀ b, ob8 = some b → b < w9.heap.size := fun b q => by
      rw [q] at sl8
      have := sl8.lt
      omega
    have hool : ∀ b, oo = some b → b < w6.heap.size := fun b q => by
      rw [q] at so6
      exact so6.lt
    have k9 : Kp (fun b => b = c ∨ ob1 = some b) w4 w9 := ((hk6.none).then (S := fun b => b = c ∨ ob1 = some b) hk8 fun b _ q => .inr q).then hk9 fun b _ q => .inl q
    have z9 := z4.gro k9 fun b q => by
      rcases q with q | q
      · rw [q]; exact .inl (.inl Vc)
      · exact .inl (hVo1 b q)
    have hoo1 : ∀ b, oo = some b → ob1 ≠ some b := fun b q q2 => by
      have := ho5 b q
      have := hob1l b q2
      omega
    have so9 := (so6.kp hk8 fun b q q2 => hoo1 b q q2).kp hk9 fun b q (q2 : b = c) => by
      have := ho5 b q
      omega
    refine hK w9 ov oo (fun b => b = c ∨ ob = some b ∨ S4 b) (fun b => Nb w w3 b ∨ N4 b ∨ Nb w4 w9 b) Bd R' _ ob8 v8 skip' br y.1 y.2.1 (fR outs) (z9.sub fun b q => ?_) (fun b q => ?_) s3 s5 ⟨r9, sl8.kp hk9 fun b q (q2 : b = c) => hob8c b q q2⟩ (fun b q => ?_) so9 (fun b q => ⟨.inr (.inr ⟨ho5 b q, ?_⟩), fun q2 => ?_⟩) (((k3.mono fun b _ q => ?_).then hk4 fun b _ q => .inr (.inr q)).then k9 fun b hb q => ?_) (fun b q1 q2 q3 q => ?_) (fun b q1 q => ?_) ((hd.app hpb).drop n) rn' (by omega) hst
    · rcases q with q | q | q | q
      · exact .inl (.inl (.inl q))
      · exact .inl (.inl (.inr q))
      · exact .inl (.inr q)
      · exact .inr q
    · rcases q with q | q | q
      · exact ⟨q.1, by have := q.2; omega⟩
      · have := hN4 b q; exact ⟨by omega, by omega⟩
      · exact ⟨by have := q.1; omega, q.2⟩
    · rcases hob8 b q with h | h
      · rcases hob1 b h with h2 | h2
        · exact .inl h2
        · exact .inr (.inl ⟨h2, by have := hob1l b h; omega⟩)
      · exact .inr (.inr (.inr ⟨by omega, hob8l b q⟩))
    · have := hool b q; omega
    · rcases hob8 b q2 with h | h
      · exact hoo1 b q h
      · have := hool b q; omega
    · exact q.imp id .inl
    · rcases q with q | q
      · exact .inl q
      · rcases hob1 b q with h | h
        · exact .inr (.inl h)
        · omega
    · rcases q with q | q | q
      · exact q2 q
      · exact q3 q
      · exact hS4 b (.inl q1) q
    · rcases q with q | q | q
      · have := hge c Vc; omega
      · have := hge b (Vo b q); omega
      · exact hW4 b q1 q
end
end Go.Proofs.Qxb6500896aGreat
