import Derived.Test.Qxb6500896aGreatM45
namespace Go.Proofs.Qxb6500896aGreat
open Go.Sh Go.RowKit
set_option linter.unusedVariables false
set_option linter.unusedSimpArgs false

section
variable {O O' G F S V V' N M : Nat → Prop} {W w w' w0 w1 : World} {r e m c pos b' : Nat} {v v1 v2 qv x pv bv' iv ov : Value} {l : List Value} {K : Value → World → Prop} {p ins out d R : List Int} {Bs : List (List Int)} {ob oi oo : Option Nat} {σ : Sg} {J : Jr} {skip : Int} {br : Bool} {xs : List Op}
set_option maxHeartbeats 300000 in
/-- at the end: the model reads the whole stream, and answers as the rig -/
theorem Stm.fin (s : Stm W w r e m c O G σ J oi oo ob iv ov bv' ins out d R Bs skip br) (hil : ins.length ≤ 5000000000) (hK : ∀ w' V', Zm W r e m σ J V' w' → K (.bool true) w') : s11_p1 K (P r 0) (P m 0) iv ov w := by
  have hbl := s.len
  have hrl := s.rn.len
  have hsq := s.sq
  have hlt := s.z.lt
  have hge := s.z.ge
  unfold s11_p1
  have ai : Ar bC 1 (fun b => oi = some b) w iv ins := s.si.ar bC_len (by omega) fun b e => e
  have fr : ∃ r b, Fr ins Bs r b := by
    rcases s.fr with ⟨_, h, _⟩ | ⟨_, h, _⟩
    · exact ⟨_, _, h⟩
    · exact ⟨_, _, h⟩
  obtain ⟨rr, bb, fr⟩ := fr
  refine streamM_ok s.mo ai (fun b q => ⟨hlt b (.inr (.inr (.inl q))), (s.nm b (.inr (.inr (.inl q)))).1⟩) s.bi (by omega) fr s.rn (by omega) fun w1 v1 b1 O1 mw sl1 hb1 nb1 => ?_
  have so1 := s.so.kp mw.k fun b q => (s.nm b (.inr (.inr (.inr q)))).1
  have ao : Ar bC 1 (fun b => oo = some b) w1 ov out := so1.ar bC_len (by omega) fun b e => e
  refine sameB_ok ao (sl1.arb (by omega)) fun w2 hk2 => ?_
  rw [decide_eq_true rfl]
  simp only [e_gdtt, e_pkt]
  have z1 := s.z.gro mw.k fun b q => .inr (.inr (.inr (.inr (.inl q))))
  have zz : Zm W r e m σ J Emp w2 := by
    refine ⟨O1, G, σ, (z1.emp hk2).sub fun b q => ?_, Core.refl _, mw.mo.kp' hk2, fun b q => q.elim⟩
    rcases q with q | q | q
    · exact q.elim
    · rcases mw.dn b q with q | q
      · exact .inl (.inr (.inr (.inr (.inr (.inl q)))))
      · exact .inr q
    · exact .inl (.inr (.inr (.inr (.inr (.inr q)))))
  exact zz.bothL s.z.i s.z.lo (by omega) hK
set_option maxHeartbeats 300000 in
theorem stream_core (hs : Scr W v xs) (hK : ∀ w', Kp Emp W w' → K (.bool true) w') : cl Tryz.prog 11 #[v] K W := by
  apply c11
  unfold s11_p5
  refine small_ok hs (Kp.refl _ _) fun rr hr => ?_
  cases rr with
  | false =>
    simp only [Bool.not_false, e_fd, e_nck, e_pkt, e_pkf, e_gdtt, e_gdtf, e_gdft, e_gdff, e_ift, e_iff, e_not, e_ln, e_lnT, e_cp, e_cvi, e_ex20, e_ex21, e_ex30, e_ex31, e_ex32, e_add, e_sub, e_mul, e_quo, e_rem, e_and, e_or, e_xor, e_shl, e_shr, e_eql, e_neq, e_lss, e_leq, e_gtr, e_geq, e_beq, e_bne, e_peq1, e_peq2, e_pne1, e_pne2, e_zeq1, e_zeq2, e_zne1, e_zne2, e_feq1, e_fne1, e_feq2, e_fne2, e_seq, e_sne, e_ta1, e_ta2, Nat.zero_add, Nat.add_zero, Bool.not_true, Bool.not_false]
    exact hK _ (Kp.refl _ _)
  | true =>
    obtain ⟨hxl, hbl⟩ := hr rfl
    simp only [Bool.not_true, e_fd, e_nck, e_pkt, e_pkf, e_gdtt, e_gdtf, e_gdft, e_gdff, e_ift, e_iff, e_not, e_ln, e_lnT, e_cp, e_cvi, e_ex20, e_ex21, e_ex30, e_ex31, e_ex32, e_add, e_sub, e_mul, e_quo, e_rem, e_and, e_or, e_xor, e_shl, e_shr, e_eql, e_neq, e_lss, e_leq, e_gtr, e_geq, e_beq, e_bne, e_peq1, e_peq2, e_pne1, e_pne2, e_zeq1, e_zeq2, e_zne1, e_zne2, e_feq1, e_fne1, e_feq2, e_fne2, e_seq, e_sne, e_ta1, e_ta2, Nat.zero_add, Nat.add_zero, Bool.not_true, Bool.not_false]
    refine pj_ok2 fun w1 hk1 => ?_
    refine newRig_ok (W := W) ⟨by decide, by decide⟩ hk1 fun w2 r e z2 hk2 => ?_
    refine park_ok fun w3 l3 hk3 hc3 => ?_
    refine newM_ok hc3 (fun b q => q.2) fun w4 m mo4 hk4 => ?_
    have s3 := hk3.size
    have s4 := hk4.size
    have z4 : Lz W (fun b => Nb w3 w4 b ∨ Nb w2 w3 b) w4 r e (sg0 park) (jr0 48 72 1200) := (z2.gro (S := Emp) (hk3.trans hk4) fun b q => q.elim).sub fun b q => by
      rcases q with q | q
      · exact .inr ⟨by have := q.1; omega, q.2⟩
      · exact .inr ⟨q.1, by have := q.2; omega⟩
    obtain ⟨M, me, h, hrr, hM, hV⟩ := z4.ex
    try simp only [e_nck, e_fd]
    refine ld1_r (v := P e 0) hrr rfl ?_
    refine newConn_ok fun w5 cn5 hk5 hz5 => ?_
    have z5 := z4.gro (S := Emp) hk5 fun b q => q.elim
    have mo5 := mo4.kp' hk5
    obtain ⟨its, i1, i2, i3⟩ := hs
    have hil : its.length = xs.length := by rw [← i1, List.length_map]
    have hbl' : ∀ p ∈ its, p.1.bs.length ≤ 65536 := fun p hp => hbl _ (by rw [← i1]; exact List.mem_map_of_mem hp)
    have st5 : Stm W w5 r e m w4.heap.size (Nb w3 w4) (Nb w2 w3) (sg0 park) (jr0 48 72 1200) none none none nilS nilS nilS [] [] [] [] [] 0 false := by
      refine ⟨z5.sub fun b q => ?_, ⟨rfl, rfl, rfl, by decide⟩, mo5, cn5, ⟨rfl, rfl⟩, ⟨rfl, rfl⟩, fun b q => (by cases q), fun b q => (by cases q), fun b q => ?_, By.nil, By.nil, ⟨rfl, rfl⟩, by decide, .inl ⟨rfl, Fr.short rfl, .inl ⟨rfl, rfl⟩, .inr rfl⟩⟩
      · rcases q with q | q | q | q | q
        · exact .inr ⟨by omega, by omega⟩
        · cases q
        · cases q
        · cases q
        · exact .inl q
      · rcases q with q | q | q | q
        · exact ⟨fun r => by have := r.2; omega, fun r => by have := r.2; omega⟩
        · cases q
        · cases q
        · cases q
    refine i2.ln ?_
    unfold s11_p4
    refine loop_n its.length (fun i l w' => ∃ σ J oi oo ob iv ov bv' ins out d R Bs skip br, l = [P r 0, P m 0, P w4.heap.size 0, iv, ov, v, I (its.length : Nat), I (i : Nat)] ∧ Stm W w' r e m w4.heap.size (Nb w3 w4) (Nb w2 w3) σ J oi oo ob iv ov bv' ins out d R Bs skip br ∧ ins.length ≤ 65545 * i) ⟨_, _, _, _, _, _, _, _, _, _, _, _, _, _, _, rfl, st5, by simp⟩ ?_ ?_
    · rintro i l w6 hi ⟨σ, J, oi, oo, ob, iv, ov, bv', ins, out, d, R, Bs, skip, br, rfl, s6, hl6⟩ B hB
      rw [s11_p4_Fe]
      unfold s11_p3
      have hp := i3 _ (List.getElem_mem hi)
      have hbi := hbl' _ (List.getElem_mem hi)
      simp only [dlt hi, e_lss, e_ift]
      refine each_r rfl (i2.kp' s6.z.k) hi (opC_len _) (by simp only [opC, List.all_cons, List.all_nil, hp.1.scal]; rfl) fun w7 r7 hk7 hz7 => ?_
      have s7 := s6.emp hk7
      generalize its[i] = op at hp hbi r7 ⊢
      have next : ∀ {w' : World} {σ' : Sg} {J' : Jr} {oi' oo' ob' : Option Nat} {iv' ov' bv'' : Value} {ins' out' d' R' : List Int} {Bs' : List (List Int)} {skip' : Int} {br' : Bool}, Stm W w' r e m w4.heap.size (Nb w3 w4) (Nb w2 w3) σ' J' oi' oo' ob' iv' ov' bv'' ins' out' d' R' Bs' skip' br' → ins'.length ≤ 65545 * (i + 1) → s11_p2 K B (P r 0) (P m 0) (P w4.heap.size 0) iv' ov' v (I (its.length : Nat)) (I (i : Nat)) w' := fun {w' σ' J' oi' oo' ob' iv' ov' bv'' ins' out' d' R' Bs' skip' br'} z' hl' => by
        unfold s11_p2
        simp only [e_add]
        rw [inc i (by omega)]
        exact hB _ _ ⟨_, _, _, _, _, _, _, _, _, _, _, _, _, _, _, rfl, z', hl'⟩
      have hge := s7.z.ge
      have hlt := s7.z.lt
      have hkz := s7.z.k.size
      -- a request in its frame
      have framed : ∀ {X : Value → Value → World → Prop}, (∀ w' σ' J' oi' oo' ob' iv' ov' bv'' out' d' R' Bs' skip' br' ins', Stm W w' r e m w4.heap.size (Nb w3 w4) (Nb w2 w3) σ' J' oi' oo' ob' iv' ov' bv'' ins' out' d' R' Bs' skip' br' → ins'.length ≤ 65545 * (i + 1) → X iv' ov' w') → cl Tryz.prog 53 #[nilS, op.2] (fun t38 w => apq 5 [(.int .u8 0)] 1 iv t38 (fun t43 w => cl Tryz.prog 54 #[P w4.heap.size 0, t38] (fun t47 w => apq 5 [(.int .u8 0)] 1 ov t47 (fun t48 w => cl Tryz.prog 55 #[P w4.heap.size 0] (fun t50 w => boI .gtr t50 (I 181) (fun t51 w => ifb t51 (K (.bool false) w) (X t43 t48 w)) w) w) w) w) w) w7 := fun {X} hX => by
        have sn : Sl bC 1 w7 5 none nilS [] := ⟨rfl, rfl⟩
        refine appF_ok sn (hp.1.kp' s7.z.k) (fun b _ q => by cases q) (by simp) (by omega) fun w8 v8 ob8 sl8 hk8 ho8 => ?_
        rw [List.nil_append] at sl8
        have hk8' : Kp Emp w7 w8 := hk8.mono fun b _ q => by cases q
        have hul := uI_len ((op.1.bs.length : Nat) : Int)
        have hob8 : ∀ b, ob8 = some b → w7.heap.size ≤ b ∧ b < w8.heap.size := fun b q => by
          refine ⟨?_, by rw [q] at sl8; exact sl8.lt⟩
          rcases ho8 with h1 | ⟨b', h1, h2⟩
          · rw [h1] at q; cases q
          · rw [h1] at q
            have := Option.some.inj q
            omega
        refine (s7.emp hk8').piece (X := X) (K := K) (F := fun b => ob8 = some b) (sl8.ar bC_len (by rw [List.length_append]; omega) fun b e => e) (fun b q => ⟨(hob8 b q).2, fun q2 => ?_, fun q2 => ?_⟩) ((uI_by _).app hp.2.1) (by rw [List.length_append]; omega) (by omega) fun w' σ' J' oi' oo' ob' iv' ov' bv'' out' d' R' Bs' skip' br' st => ?_
        · have := hlt b (.inr (.inl q2)); have := (hob8 b q).1; omega
        · have := hlt b (.inr (.inr (.inl q2))); have := (hob8 b q).1; omega
        · exact hX _ _ _ _ _ _ _ _ _ _ _ _ _ _ _ _ st (by rw [List.length_append, List.length_append]; omega)
      -- octets as they are
      have raw : ∀ {X : Value → Value → World → Prop}, (∀ w' σ' J' oi' oo' ob' iv' ov' bv'' out' d' R' Bs' skip' br' ins', Stm W w' r e m w4.heap.size (Nb w3 w4) (Nb w2 w3) σ' J' oi' oo' ob' iv' ov' bv'' ins' out' d' R' Bs' skip' br' → ins'.length ≤ 65545 * (i + 1) → X iv' ov' w') → apq 5 [(.int .u8 0)] 1 iv op.2 (fun t43 w => cl Tryz.prog 54 #[P w4.heap.size 0, op.2] (fun t47 w => apq 5 [(.int .u8 0)] 1 ov t47 (fun t48 w => cl Tryz.prog 55 #[P w4.heap.size 0] (fun t50 w => boI .gtr t50 (I 181) (fun t51 w => ifb t51 (K (.bool false) w) (X t43 t48 w)) w) w) w) w) w7 := fun {X} hX => by
        refine s7.piece (X := X) (K := K) (hp.1.kp' s7.z.k) (fun b q => ⟨by omega, fun q2 => ?_, fun q2 => ?_⟩) hp.2.1 (by omega) (by omega) fun w' σ' J' oi' oo' ob' iv' ov' bv'' out' d' R' Bs' skip' br' st => ?_
        · have := hge b (.inr (.inl q2)); omega
        · have := hge b (.inr (.inr (.inl q2))); omega
        · exact hX _ _ _ _ _ _ _ _ _ _ _ _ _ _ _ _ st (by rw [List.length_append]; omega)
      refine fdp (ld1_r (v := op.2) r7 rfl ?_)
      refine fdp (ld1_r (v := I op.1.kind) r7 rfl ?_)
      simp only [e_eql]
      cases hk0 : (op.1.kind == 0) with
      | true =>
        simp only [e_ift]
        refine fdp (ld1_r (v := op.2) r7 rfl ?_)
        exact framed fun w' σ' J' oi' oo' ob' iv' ov' bv'' out' d' R' Bs' skip' br' ins' st hl => next st hl
      | false =>
        simp only [e_iff]
        cases hk4 : (op.1.kind == 4) with
        | true =>
          simp only [e_ift]
          refine fdp (ld1_r (v := op.2) r7 rfl ?_)
          exact framed fun w' σ' J' oi' oo' ob' iv' ov' bv'' out' d' R' Bs' skip' br' ins' st hl => next st hl
        | false =>
          simp only [e_iff]
          cases hk3 : (op.1.kind == 3) with
          | true =>
            simp only [e_ift]
            exact raw fun w' σ' J' oi' oo' ob' iv' ov' bv'' out' d' R' Bs' skip' br' ins' st hl => next st hl
          | false =>
            simp only [e_iff]
            exact next s7 (by omega)
    · rintro l w6 ⟨σ, J, oi, oo, ob, iv, ov, bv', ins, out, d, R, Bs, skip, br, rfl, s6, hl6⟩ B
      rw [s11_p4_Fe]
      unfold s11_p3
      simp only [dnlt, e_lss, e_iff]
      exact s6.fin (by omega) fun w' V' z' => hK _ z'.k
theorem stream_walk (hs : Scr W v xs) : cl Tryz.prog 11 #[v] (fun e W' => e = .bool true ∧ Below W.heap.size W W') W :=
  stream_core hs fun w' hk => ⟨rfl, hk.below'⟩
end
end Go.Proofs.Qxb6500896aGreat
