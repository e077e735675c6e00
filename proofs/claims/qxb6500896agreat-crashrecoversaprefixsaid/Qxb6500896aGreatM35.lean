import Derived.Test.Qxb6500896aGreatM34
namespace Go.Proofs.Qxb6500896aGreat
open Go.Sh Go.RowKit
set_option linter.unusedVariables false
set_option linter.unusedSimpArgs false

theorem stbL_get {C : Cfg} {l : List (List Int)} : ∀ {σ : Sg} {J : Jr} {k : Nat} (h : k < l.length) (h' : k < (stbL C l σ J).2.2.length), (stbL C l σ J).2.2[k] = (stbS C l[k] (stbL C (l.take k) σ J).1 (stbL C (l.take k) σ J).2.1).2.2 := by
  induction l with
  | nil => intro σ J k h; cases h
  | cons b l ih =>
    intro σ J k h h'
    cases k with
    | zero => rfl
    | succ k =>
      have hk : k < l.length := by rw [List.length_cons] at h; omega
      exact ih (σ := (stbS C b σ J).1) (J := (stbS C b σ J).2.1) hk (by rw [stbL_len]; exact hk)
section
variable {O G F S V V' N : Nat → Prop} {W w w' w0 w1 : World} {r e m b1 b2 e2 : Nat} {v v1 v2 qv : Value} {l : List Value} {K : Value → World → Prop} {σ σ' σ2 : Sg} {J J' J2 : Jr} {bs : List Int} {bss : List (List Int)} {q : Rq} {xs : List Op} {X : World → Prop} {ob : Option Nat} {vals : List Value}
/-- requests held back, in the law's own memory -/
structure Qu (W w : World) (ob : Option Nat) (qv : Value) (vals : List Value) (bss : List (List Int)) : Prop where
  sl : Sl one 1 w 37 ob qv vals
  ln : vals.length = bss.length
  at_ : ∀ i (h1 : i < vals.length) (h2 : i < bss.length), Ar bC 1 (fun b => b < W.heap.size) W vals[i] bss[i]
  by_ : ∀ bs ∈ bss, By bs ∧ bs.length ≤ 65536
theorem Qu.nil : Qu W w none nilS [] [] := ⟨⟨rfl, rfl⟩, rfl, fun i h => (by cases h), fun bs h => (by cases h)⟩
theorem Qu.kp (h : Qu W w ob qv vals bss) (hk : Kp S w w') (hS : ∀ b, ob = some b → ¬ S b) : Qu W w' ob qv vals bss := ⟨h.sl.kp hk hS, h.ln, h.at_, h.by_⟩
theorem Qu.rwb (h : Qu W w ob qv vals bss) (hk : Kp Emp W w) (hn : bss.length ≤ 100000) : Rwb (fun b => ob = some b ∨ b < W.heap.size) w qv bss := by
  have hl := h.ln
  exact ⟨vals, h.sl.ar one_len (by omega) fun b e => .inl e, h.ln, fun i a b => ((h.at_ i a b).kp' hk).mono fun c q => .inr q⟩
/-- one more -/
theorem Qu.add {x : Value} (h : Qu W w ob qv vals bss) (hx : Ar bC 1 (fun b => b < W.heap.size) W x bs) (hb : By bs) (hl : bs.length ≤ 65536) (hn : bss.length ≤ 100000)
    (hK : ∀ w' v' ob', Qu W w' ob' v' (vals ++ [x]) (bss ++ [bs]) → Kp (fun b => ob = some b) w w' → (ob' = ob ∨ ∃ b, ob' = some b ∧ w.heap.size ≤ b) → K v' w') :
    bsq 37 [nilS] 1 [(some (0, 1), x)] (fun t w => apq 37 [nilS] 24 qv t K w) w := by
  have hln := h.ln
  have hsc := hx.scal
  refine h.sl.app one_len rfl x (by unfold one; simp only [List.all_cons, List.all_nil, hsc]; rfl) (by omega) (by omega) (fill_one hsc) fun w1 v1 ob1 sl1 hk1 ho1 => ?_
  refine hK w1 v1 ob1 ⟨sl1, by rw [List.length_append, List.length_append, h.ln]; rfl, fun i h1 h2 => ?_, fun y hy => ?_⟩ hk1 ho1
  · rw [List.length_append] at h1 h2
    simp only [List.length_singleton] at h1 h2
    by_cases hi : i < vals.length
    · have e1 : (vals ++ [x])[i] = vals[i] := List.getElem_append_left hi
      have e2 : (bss ++ [bs])[i] = bss[i]'(by omega) := List.getElem_append_left (by omega)
      rw [e1, e2]
      exact h.at_ i hi (by omega)
    · have e1 : (vals ++ [x])[i] = x := by rw [List.getElem_append_right (by omega)]; simp only [show i - vals.length = 0 by omega, List.getElem_cons_zero]
      have e2 : (bss ++ [bs])[i] = bs := by rw [List.getElem_append_right (by omega)]; simp only [show i - bss.length = 0 by omega, List.getElem_cons_zero]
      rw [e1, e2]
      exact hx
  · rcases List.mem_append.1 hy with q | q
    · exact h.by_ y q
    · rw [List.mem_singleton.1 q]; exact ⟨hb, hl⟩
set_option maxHeartbeats 4000000 in
theorem batch_walk (hs : Scr W v xs) : cl Tryz.prog 7 #[v] (fun e W' => e = .bool true ∧ Below W.heap.size W W') W := by
  apply c7
  unfold s7_p11
  refine small_ok hs (Kp.refl _ _) fun rr hr => ?_
  cases rr with
  | false =>
    simp only [Bool.not_false, e_fd, e_nck, e_pkt, e_pkf, e_gdtt, e_gdtf, e_gdft, e_gdff, e_ift, e_iff, e_not, e_ln, e_lnT, e_cp, e_cvi, e_ex20, e_ex21, e_ex30, e_ex31, e_ex32, e_add, e_sub, e_mul, e_quo, e_rem, e_and, e_or, e_xor, e_shl, e_shr, e_eql, e_neq, e_lss, e_leq, e_gtr, e_geq, e_beq, e_bne, e_peq1, e_peq2, e_pne1, e_pne2, e_zeq1, e_zeq2, e_zne1, e_zne2, e_feq1, e_fne1, e_feq2, e_fne2, e_seq, e_sne, e_ta1, e_ta2, Nat.zero_add, Nat.add_zero, Bool.not_true, Bool.not_false]
    exact ⟨trivial, (Kp.refl _ _).below'⟩
  | true =>
    obtain ⟨hxl, hbl⟩ := hr rfl
    simp only [Bool.not_true, e_fd, e_nck, e_pkt, e_pkf, e_gdtt, e_gdtf, e_gdft, e_gdff, e_ift, e_iff, e_not, e_ln, e_lnT, e_cp, e_cvi, e_ex20, e_ex21, e_ex30, e_ex31, e_ex32, e_add, e_sub, e_mul, e_quo, e_rem, e_and, e_or, e_xor, e_shl, e_shr, e_eql, e_neq, e_lss, e_leq, e_gtr, e_geq, e_beq, e_bne, e_peq1, e_peq2, e_pne1, e_pne2, e_zeq1, e_zeq2, e_zne1, e_zne2, e_feq1, e_fne1, e_feq2, e_fne2, e_seq, e_sne, e_ta1, e_ta2, Nat.zero_add, Nat.add_zero, Bool.not_true, Bool.not_false]
    refine pj_ok2 fun w1 hk1 => ?_
    refine newRig_ok (W := W) ⟨by decide, by decide⟩ hk1 fun w2 r e z2 hk2 => ?_
    refine park_ok fun w3 l3 hk3 hc3 => ?_
    refine newM_ok hc3 (fun b q => q.2) fun w4 m mo4 hk4 => ?_
    have z4 : Lz W (fun b => none = some b ∨ Nb w3 w4 b ∨ Nb w2 w3 b) w4 r e (sg0 park) (jr0 48 72 1200) := (z2.gro (S := Emp) (hk3.trans hk4) fun b q => q.elim).sub fun b q => by
      have s3 := hk3.size
      have s4 := hk4.size
      rcases q with q | q | q
      · cases q
      · exact .inr ⟨by have := q.1; omega, q.2⟩
      · exact .inr ⟨q.1, by have := q.2; omega⟩
    obtain ⟨its, i1, i2, i3⟩ := hs
    have hil : its.length = xs.length := by rw [← i1, List.length_map]
    have hbl' : ∀ p ∈ its, p.1.bs.length ≤ 65536 := fun p hp => hbl _ (by rw [← i1]; exact List.mem_map_of_mem hp)
    refine i2.ln ?_
    unfold s7_p10
    refine loop_n its.length (fun i l w' => ∃ σ J ob qv vals bss, l = [P r 0, P m 0, qv, v, I (its.length : Nat), I (i : Nat)] ∧ Zm W r e m σ J (fun b => ob = some b) w' ∧ Qu W w' ob qv vals bss ∧ Jlm 48 72 1200 J ∧ σ.seq + ((bss.length : Nat) : Int) ≤ ((i : Nat) : Int) ∧ bss.length ≤ i) ⟨sg0 park, jr0 48 72 1200, none, nilS, [], [], rfl, ⟨_, _, _, z4, Core.refl _, mo4, fun b q => by cases q⟩, Qu.nil, ⟨rfl, rfl, rfl, by decide⟩, by simp [sg0], by simp⟩ ?_ ?_
    · rintro i l w5 hi ⟨σ0, J, ob, qv, vals, bss, rfl, z5, q5, jl5, hq5, hn5⟩ B hB
      have zlt := z5.lt
      rw [s7_p10_Fe]
      unfold s7_p9
      have hp := i3 _ (List.getElem_mem hi)
      have hbi := hbl' _ (List.getElem_mem hi)
      simp only [dlt hi, e_lss, e_ift]
      unfold s7_p8
      refine each_r rfl (i2.kp' z5.k) hi (opC_len _) (by simp only [opC, List.all_cons, List.all_nil, hp.1.scal]; rfl) fun w6 r6 hk6 hz6 => ?_
      have z6 := z5.emp hk6
      generalize its[i] = op at hp hbi r6 ⊢
      have next : ∀ {w' : World} {V' : Nat → Prop} {σ' : Sg} {J' : Jr} {ob' : Option Nat} {qv' : Value} {vals' : List Value} {bss' : List (List Int)}, Zm W r e m σ' J' V' w' → (∀ b, ob' = some b → V' b) → Qu W w' ob' qv' vals' bss' → Jlm 48 72 1200 J' → σ'.seq + ((bss'.length : Nat) : Int) ≤ ((i + 1 : Nat) : Int) → bss'.length ≤ i + 1 → s7_p2 (fun e W' => e = .bool true ∧ Below W.heap.size W W') B (P r 0) (P m 0) qv' v (I (its.length : Nat)) (I (i : Nat)) w' := fun {w' V' σ' J' ob' qv' vals' bss'} z' hV' q' jl' hq' hn' => by
        unfold s7_p2
        simp only [e_add]
        rw [inc i (by omega)]
        exact hB _ _ ⟨σ', J', ob', qv', vals', bss', rfl, z'.sub hV', q', jl', hq', hn'⟩
      refine ldn_r r6 (show 0 + 4 ≤ 4 by decide) ?_
      refine isReq_ok (p := op) fun w7 hk7 => ?_
      have z7 := z6.emp hk7
      have r7 := hk7.row' r6
      have q7 := (q5.kp hk6 fun b _ q => q).kp hk7 fun b _ q => q
      cases hk : (op.1.kind == 0 || op.1.kind == 4) with
      | false =>
        simp only [e_not, Bool.not_false, e_ift]
        exact next z7 (fun b q => q) q7 jl5 (by omega) (by omega)
      | true =>
        simp only [e_not, Bool.not_true, e_iff]
        refine fdp (ld1_r (v := op.2) r7 rfl ?_)
        refine q7.add hp.1 hp.2.1 hbi (by omega) fun w8 v8 ob8 q8 hk8 ho8 => ?_
        have hz7 := hk7.size
        have r8 := hk8.row r7 fun q => by have := zlt _ q; omega
        have z8 := z7.gro hk8 fun b q => q
        have hob8 : ∀ b, ob8 = some b → (ob = some b ∨ Nb w7 w8 b) := fun b q => by
          rcases ho8 with e | ⟨c, e, hc⟩
          · rw [e] at q; exact .inl q
          · rw [e] at q
            have q := Option.some.inj q
            subst q
            have sl8 := q8.sl
            rw [e] at sl8
            exact .inr ⟨hc, sl8.lt⟩
        have z8' : Zm W r e m σ0 J (fun b => ob8 = some b) w8 := z8.sub hob8
        have hln8 : (bss ++ [op.1.bs]).length = bss.length + 1 := by rw [List.length_append]; rfl
        refine fdp (ld1_r (v := I op.1.kind) r8 rfl ?_)
        simp only [e_eql]
        cases hk4 : (op.1.kind == 4) with
        | true =>
          simp only [e_ift]
          exact next z8' (fun b q => q) q8 jl5 (by omega) (by omega)
        | false =>
          simp only [e_iff]
          obtain ⟨O, G, σ, h8, c8, mo8, hd8⟩ := z8'
          rw [← c8.ms] at mo8
          have hsq8 := c8.seq
          generalize bss ++ [op.1.bs] = bs8 at q8 hln8
          generalize vals ++ [op.2] = vals8 at q8
          have hby8 : ∀ bs ∈ bs8, By bs := fun bs h => (q8.by_ bs h).1
          have hs8 : σ.seq + ((bs8.length : Nat) : Int) ≤ 1000000000 := by omega
          have rw8 := q8.rwb h8.k (by omega)
          obtain ⟨x1, x2, x3, x4, x5, x6⟩ := bat_set h8.i jl5 hby8 hs8
          refine h8.batch jl5 hs8 rw8 (fun b q => q.imp (fun q => .inl q) id) hby8 (by omega) fun w9 v9 rb S N z9 rp nrb hN hk9 hS9 hW9 => ?_
          have mo9 := mo8.kp hk9 fun b q => ⟨fun r => hS9 b (.inr (.inl r)) q, fun r => hS9 b (.inr (.inr r)) q⟩
          have q9 := q8.kp hk9 fun b e => hS9 b (.inl e)
          rw [x6] at rp
          obtain ⟨rvals, rsl, rln, rat⟩ := rp
          have rlen : rvals.length = bs8.length := by rw [rln, List.length_map, stbL_len]
          refine rsl.ln ?_
          have qA : Ar one 1 (fun b => ob8 = some b) w9 v8 vals8 := q9.sl.ar one_len (by have := q9.ln; omega) fun b e => e
          refine qA.ln ?_
          simp only [e_neq]
          have en : (((rvals.length : Nat) : Int) != ((vals8.length : Nat) : Int)) = false := by rw [rlen, q8.ln, bne_self_eq_false]
          simp only [en, e_iff]
          refine rsl.ln ?_
          unfold s7_p7
          rw [rlen]
          have hdN : ∀ b, ob8 = some b ∨ N b → ¬ O b ∧ ¬ G b := fun b q => by
            rcases q with q | q
            · exact hd8 b q
            · have := (hN b q).1
              exact ⟨fun r => by have := mo8.lt b (.inl r); omega, fun r => by have := mo8.lt b (.inr r); omega⟩
          refine loop_n bs8.length (fun k l w' => l = [P r 0, P m 0, v8, v, I (its.length : Nat), I (i : Nat), v9, I (bs8.length : Nat), I (k : Nat)] ∧ ∃ O', Lz W (fun b => (ob8 = some b ∨ N b) ∨ O' b ∨ G b) w' r e (batS park bs8 σ J).1 (batS park bs8 σ J).2.1 ∧ Mo O' G w' m (stbL park (bs8.take k) σ J).1.ms ∧ (∀ b, ob8 = some b ∨ N b → ¬ O' b ∧ ¬ G b) ∧ Qu W w' ob8 v8 vals8 bs8 ∧ Rpb (fun b => N b ∧ b ≠ rb) w' rb v9 ((stbL park bs8 σ J).2.2.map eR)) ⟨rfl, O, z9.sub fun b q => ?_, mo9, hdN, q9, ⟨rvals, rsl, rln, rat⟩⟩ ?_ ?_
          · rcases q with (q | q) | q | q
            · exact .inl (.inl q)
            · exact .inr q
            · exact .inl (.inr (.inl q))
            · exact .inl (.inr (.inr q))
          · rintro k l w10 hk ⟨rfl, O', z10, mo10, hd10, q10, ⟨rv, rs1, rs2, rs3⟩⟩ B2 hB2
            rw [s7_p7_Fe]
            unfold s7_p6
            simp only [dlt hk, e_lss, e_ift]
            rw [List.length_map, stbL_len] at rs2
            have hk1 : k < rv.length := by omega
            have hk2 : k < vals8.length := by rw [q10.ln]; exact hk
            have rA : Ar one 1 (fun b => b = rb) w10 v9 rv := rs1.ar one_len (by omega) fun b e => (Option.some.inj e).symm
            refine rA.ix hk1 fun b o _ cc => ?_
            refine cc.ld0 (v := rv[k]) rfl ?_
            have qA : Ar one 1 (fun b => ob8 = some b) w10 v8 vals8 := q10.sl.ar one_len (by have := q10.ln; omega) fun b e => e
            refine qA.ix hk2 fun b o _ cc => ?_
            refine cc.ld0 (v := vals8[k]) rfl ?_
            have bi := batI h8.i jl5 hby8 hs8 k (by omega)
            have hbk := q8.by_ _ (List.getElem_mem hk)
            have kz := z10.k.size
            refine z10.hdl (σ := (stbL park (bs8.take k) σ J).1) mo10 hd10 bi.i.g ((q8.at_ k hk2 hk).kp' z10.k) (fun b q => by omega) hbk.1 (by omega) fun w11 v11 b11 S11 O11 z11 mo11 hd11 sl11 hb11 hk11 hS11 hW11 => ?_
            obtain ⟨ea, em⟩ := stb_md0 bi.i bi.l hbk.1 (by have := bi.s; omega)
            have hrk := rs3 k hk1 (by rw [List.length_map, stbL_len]; exact hk)
            rw [List.getElem_map, stbL_get hk] at hrk
            rw [← ea] at sl11
            rw [← em] at mo11
            have hrn := stbS_rpn (J := (stbL park (bs8.take k) σ J).2.1) (bs := bs8[k]) park_cv (by decide) fun _ => bi.i.g
            have hll := eR_len hrn (stbS_cnt park _ _ _)
            refine sameB_ok (hrk.kp hk11 fun b q => hS11 b (.inr q.1)) (sl11.arb (by omega)) fun w12 hk12 => ?_
            rw [decide_eq_true rfl]
            simp only [e_not, Bool.not_true, e_iff, e_add]
            rw [inc k (by omega)]
            refine hB2 _ _ ⟨rfl, O11, (z11.emp hk12).sub fun b q => ?_, ?_, fun b q => hd11 b (.inl q), (q10.kp hk11 fun b e => hS11 b (.inl e)).kp hk12 fun _ _ q => q, ⟨rv, (rs1.kp hk11 fun b e => by cases e; exact hS11 _ (.inr nrb)).kp' hk12, by rw [List.length_map, stbL_len]; exact rs2, fun i a b => ((rs3 i a b).kp hk11 fun b q => hS11 b (.inr q.1)).kp' hk12⟩⟩
            · rcases q with q | q
              · exact .inl (.inl q)
              · exact .inr q
            · rw [List.take_succ_eq_append_getElem hk, stbL_app]
              exact mo11.kp' hk12
          · rintro l w10 ⟨rfl, O', z10, mo10, hd10, q10, rp10⟩ B2
            rw [s7_p7_Fe]
            unfold s7_p6
            simp only [dnlt, e_lss, e_iff]
            unfold s7_p5 s7_p4
            rw [List.take_length, ← x4] at mo10
            generalize batS park bs8 σ J = y at z10 mo10 x1 x2 x3 x5
            have kd : Kp Emp w10 (drw w10) := kp_drw
            generalize drw w10 = w11 at kd ⊢
            have z11 := z10.emp kd
            have mo11 := mo10.kp' kd
            obtain ⟨M, me, h, hrr, hM, hV⟩ := z11.ex
            refine ⟨fun w' => Row w' r 47 [P me.j 0, P e 0], hrr, ?_⟩
            unfold s7_p4_d
            refine nk0 (fdp (qw_i (v := P me.j 0) (fun w' hJ => ld1_r hJ rfl ⟨rfl, rfl⟩) ?_))
            have hll : y.2.1.log.length ≤ 1000 := by
              have := x3.tt
              have := len_tot y.2.1.log
              omega
            refine second_ok h rfl hrr hM hV z11.k z11.i z11.lo z11.r0 hll (fun w' hk => hk.row' hrr) fun w12 e2 σ2 J2 z12 c12 hk12 => ?_
            have zz : Z3 W r e m y.1 y.2.1 e2 σ2 J2 (fun b => ob8 = some b ∨ N b) w12 := ⟨O', G, σ2, z12, Core.refl _, mo11.kp' hk12, hd10⟩
            have fin : s7_p3 (fun e W' => e = .bool true ∧ Below W.heap.size W W') B (P r 0) (P m 0) nilS (P e2 0) .nilIface v (I (its.length : Nat)) (I (i : Nat)) w12 := by
              unfold s7_p3
              simp only [e_fne1, e_gdff, e_pkf]
              refine zz.both z11.i z11.lo (by omega) z12.i2 z12.lo2 c12 fun w13 V13 z13 => ?_
              simp only [e_not, Bool.not_true, e_iff]
              exact next (ob' := none) (vals' := []) (bss' := []) z13 (fun b q => by cases q) Qu.nil x3 (by simp only [List.length_nil]; omega) (by simp)
            simp only [ex2_0, ex2_1]
            exact ⟨⟨fin, fin⟩, fin⟩
    · rintro l w5 ⟨σ0, J, ob, qv, vals, bss, rfl, z5, q5, jl5, hq5, hn5⟩ B
      rw [s7_p10_Fe]
      unfold s7_p9
      simp only [dnlt, e_lss, e_iff]
      unfold s7_p1
      exact ⟨rfl, z5.k.below'⟩
end
end Go.Proofs.Qxb6500896aGreat
