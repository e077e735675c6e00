import Derived.Test.Qxb6500896aGreatDoorT19
import Derived.Test.Qxb6500896aGreatDoorT14
import Derived.Test.Qxb6500896aGreatDoorN18
import Derived.Test.Qxb6500896aGreatDoorGx
namespace Go.Proofs.Qxb6500896aGreatDoor
open Go.Sh Go.RowKit
set_option linter.unusedVariables false
set_option linter.unusedSimpArgs false

theorem bl_len (bs : ByteArray) : ∀ (k i : Nat) (r : List UInt8), bs.size - i = k → (ByteArray.toList.loop bs i r).length = r.length + k
  | 0, i, r, h => by
    unfold ByteArray.toList.loop
    rw [if_neg (by omega), List.length_reverse]
    rfl
  | k + 1, i, r, h => by
    unfold ByteArray.toList.loop
    rw [if_pos (by omega), bl_len bs k (i + 1) _ (by omega), List.length_cons]
    omega
theorem str_ne {s : ByteArray} (h : 1 ≤ s.size) : (s.toList == (⟨#[]⟩ : ByteArray).toList) = false := by
  rw [beq_eq_false_iff_ne]
  intro e
  have e := congrArg List.length e
  unfold ByteArray.toList at e
  rw [bl_len s s.size 0 [] (by omega), bl_len _ 0 0 [] (by rfl)] at e
  rw [List.length_nil] at e
  omega
/-- what is asked of one reply -/
def codT (K : Value → World → Prop) (B1 : List Value → World → Prop) (t3 t18 t19 t20 t5 : Value) (w : World) : Prop :=
  (fd 1 t5 (fun t55 w =>
  ld1 t55 (fun t56 w =>
  cl Tryz.prog 11 #[t3, t56] (fun t57 w =>
  cl Tryz.prog 14 #[t57] (fun t60 w =>
  exq t60 0 (fun t61 w =>
  exq t60 1 (fun t62 w =>
  nw 46 zRep (fun t11 w =>
  stn 34 t11 t61 (fun w =>
  un .not t62 (fun t64 w =>
  gd t64 false (ldn 34 t11) (fun t66 w =>
  gd t64 false (cl Tryz.prog 31 #[t66]) (fun t67 w =>
  gd t64 false (fun K w => K t57 w) (fun t68 w =>
  gd t64 false (cl Tryz.prog 27 #[t67, t68]) (fun t69 w =>
  gd t64 false (un .not t69) (fun t70 w =>
  pk t64 (.bool true) t70 (fun t71 w =>
  ifb t71
  (K (.bool false) w)
  (fd 1 t5 (fun t72 w =>
  ld1 t72 (fun t73 w =>
  cl Tryz.prog 32 #[t73] (fun t74 w =>
  boS .eql t74 (.string ⟨#[]⟩) (fun t75 w =>
  gd t75 false (fun K w => K t57 w) (fun t77 w =>
  gd t75 false (cl Tryz.prog 33 #[t77]) (fun t78 w =>
  gd t75 false (boS .eql t78 (.string ⟨#[]⟩)) (fun t79 w =>
  pk t75 (.bool true) t79 (fun t80 w =>
  gd t80 false (fd 1 t5) (fun t82 w =>
  gd t80 false (ld1 t82) (fun t83 w =>
  gd t80 false (cl Tryz.prog 33 #[t83]) (fun t84 w =>
  gd t80 false (boS .eql t84 (.string ⟨#[]⟩)) (fun t85 w =>
  pk t80 (.bool true) t85 (fun t86 w =>
  ifb t86
  (K (.bool false) w)
  (s5_p2 K B1 t3 t18 t19 t20 w)) w) w) w) w) w) w) w) w) w) w) w) w) w)) w) w) w) w) w) w) w) w) w) w) w) w) w) w) w)
theorem encIss_by (l : List Iss) : By (encIss l) := fun x hx => by
  unfold encIss at hx
  obtain ⟨y, _, hl⟩ := List.mem_flatMap.1 hx
  exact ((uI_by _).app (uI_by _)) x hl
theorem encRs_by (l : List Rec) : By (encRs l) := fun x hx => by
  unfold encRs at hx
  obtain ⟨y, _, hl⟩ := List.mem_flatMap.1 hx
  exact encRec_by y x hl
theorem by_app2 {a b : List Int} : By (a ++ b) ↔ By a ∧ By b :=
  ⟨fun h => ⟨fun x hx => h x (List.mem_append_left _ hx), fun x hx => h x (List.mem_append_right _ hx)⟩, fun h => h.1.app h.2⟩
theorem by_ite2 {c : Prop} [Decidable c] {a b : List Int} : By (if c then a else b) ↔ (c → By a) ∧ (¬ c → By b) := by
  split
  · exact ⟨fun h => ⟨fun _ => h, fun n => absurd ‹c› n⟩, fun h => h.1 ‹c›⟩
  · exact ⟨fun h => ⟨fun n => absurd n ‹¬ c›, fun _ => h⟩, fun h => h.2 ‹¬ c›⟩
section
theorem eR_by {p : Rp} (h : RpN p) : By (eR p) := by
  unfold eR
  split
  · refine By.app (By.cons ⟨by decide, by decide⟩ (By.cons h.op By.nil)) ?_
    unfold eB
    simp only [by_app2, by_ite2, uI_by, encIss_by, encRs_by, encRec_by, encIds_by, By.nil, and_self, implies_true]
  · exact By.cons h.code By.nil
end
section
variable {W w w' w1 : World} {V F M : Nat → Prop} {r e j n tb : Nat} {σ : Sg} {J : Jr} {K : Value → World → Prop} {B : List Value → World → Prop} {v t18 t19 t20 : Value} {xs : List Op} {op : Op × Value}
set_option maxHeartbeats 2000000 in
theorem cod_tail (hg : Gl W) (z : Lz W V w r e σ J) (hseq : σ.seq ≤ 1000000000) (rt : Row w tb 37 (opC op)) (hV : V tb) (ha : Ar bC 1 (fun b => b < W.heap.size) W op.2 op.1.bs) (hB : By op.1.bs) (hl : op.1.bs.length ≤ 65536)
    (next : ∀ w' V', Lz W V' w' r e (hndS park op.1.bs σ J).1 (hndS park op.1.bs σ J).2.1 → s5_p2 K B (P r 0) t18 t19 t20 w') : codT K B (P r 0) t18 t19 t20 (P tb 0) w := by
  unfold codT
  refine fdp (ld1_r (v := op.2) rt rfl ?_)
  have hWz := z.k.size
  refine z.send hseq (ha.kp' z.k) (fun b q => by omega) hB fun w1 v1 b1 S1 z1 sl1 hb1 hk1 hS1 hW1 => ?_
  have rpn := hnd_rpn (bs := op.1.bs) z.i
  have rpx := hnd_rpx (J := J) (bs := op.1.bs) (σ := σ) fun _ => z.i.g
  have hcn := hndS_cnt park op.1.bs σ J
  have hlen := hnd_len (bs := op.1.bs) z.i
  have rt1 := hk1.row rt (hS1 _ hV)
  generalize hx : hndS park op.1.bs σ J = x at z1 sl1 rpn rpx hcn hlen next
  obtain ⟨σ1, J1, p⟩ := x
  simp only at z1 sl1 rpn rpx hcn hlen next
  have hdr := decR_eR rpn rpx hcn
  have hen := eR_nrm rpx
  have hnn := nrm_rpn rpn
  have byR := eR_by rpn
  have hb1lt := sl1.lt
  have ar1 : Ar bC 1 (fun b => b = b1) w1 v1 (eR p) := sl1.arb (by omega)
  refine decR_ok ar1 byR (fun b (q : b = b1) => by omega) (by omega) fun w2 l2 hk2 hv2 => ?_
  rw [hdr] at hv2 ⊢
  have hv2 : Rv (Nb w1 w2) w2 l2 (nrm p) := hv2
  simp only [ex2_0, ex2_1]
  refine nw_r fun w3 r3 hk3 hz3 => ?_
  have hl34 := hv2.len
  refine stn_r (cs := l2) r3 hl34 (show 0 + 34 ≤ 34 by decide) hv2.sc fun w4 r4 hk4 hz4 => ?_
  rw [List.take_zero, List.nil_append, Nat.zero_add, List.drop_of_length_le (by decide), List.append_nil] at r4
  have k24 : Kp Emp w2 w4 := hk3.then hk4 fun c hc (q : c = _) => by omega
  have k14 := hk2.trans k24
  have sz24 := k24.size
  simp only [Bool.not_true, e_not]
  refine gff (ldn_r r4 (by omega) ?_)
  rw [List.drop_zero, List.take_of_length_le (by omega)]
  refine gff (encRep_ok hnn (hv2.kp k24 fun b _ q => q) (fun b hb => by have := hb.2; omega) fun w5 v5 b5 sl5 hb5 hk5 => ?_)
  rw [hen] at sl5
  refine gff (gff ?_)
  have k15 := k14.trans hk5
  refine sameB_ok (sl5.arb (by omega)) ((sl1.kp' k15).arb (by omega)) fun w6 hk6 => ?_
  rw [decide_eq_true rfl]
  refine gff ?_
  simp only [Bool.not_true, e_not]
  refine pkf (sw_f ?_)
  have k16 := k15.trans hk6
  have z6 := z1.emp k16
  refine fdp (ld1_r (v := op.2) (k16.row' rt1) rfl ?_)
  have hWz6 := z6.k.size
  refine descReq_ok (ha.kp' z6.k) hB (fun b q => by omega) (by omega) fun w7 s7 hk7 s71 => ?_
  simp only [e_seq, str_ne s71]
  refine gff (gff ?_)
  have k17 := k16.trans hk7
  have z7 := z6.emp hk7
  have hWz7 := z7.k.size
  have sz17 := k17.size
  refine descRep_ok (hg.kp' z7.k) ((sl1.kp' k17).arb (by omega)) byR (fun b (q : b = b1) => by omega) (fun q => by rw [hdr] at q; cases q) (by omega) (by rw [hdr]; exact hnn) fun w8 s8 hk8 s81 => ?_
  refine gff ?_
  simp only [e_seq, str_ne s81]
  refine pkf ?_
  have k18 := k17.trans hk8
  have z8 := z7.emp hk8
  have hWz8 := z8.k.size
  refine gff (fdp ?_)
  refine gff (ld1_r (v := op.2) (k18.row' rt1) rfl ?_)
  refine gff ?_
  refine descRep_ok (hg.kp' z8.k) (ha.kp' z8.k) hB (fun b q => by omega) (fun _ => by omega) (by omega) (decR_rpn hB (by omega)) fun w9 s9 hk9 s91 => ?_
  refine gff ?_
  simp only [e_seq, str_ne s91]
  refine pkf (sw_f ?_)
  exact next w9 _ (z8.emp hk9)
set_option maxHeartbeats 2000000 in
theorem codecs_walk (hg : Gl W) (hs : Scr W v xs) : cl Tryz.prog 5 #[v] (fun e W' => e = .bool true ∧ Below W.heap.size W W') W := by
  apply c5
  unfold s5_p5
  refine small_ok hs (Kp.refl _ _) fun rr hr => ?_
  cases rr with
  | false =>
    simp only [Bool.not_false, e_fd, e_nck, e_pkt, e_pkf, e_gdtt, e_gdtf, e_gdft, e_gdff, e_ift, e_iff, e_not, e_ln, e_lnT, e_cp, e_cvi, e_ex20, e_ex21, e_ex30, e_ex31, e_ex32, e_add, e_sub, e_mul, e_quo, e_rem, e_and, e_or, e_xor, e_shl, e_shr, e_eql, e_neq, e_lss, e_leq, e_gtr, e_geq, e_beq, e_bne, e_peq1, e_peq2, e_pne1, e_pne2, e_zeq1, e_zeq2, e_zne1, e_zne2, e_feq1, e_fne1, e_feq2, e_fne2, e_seq, e_sne, e_ta1, e_ta2, Nat.zero_add, Nat.add_zero, Bool.not_true, Bool.not_false]
    exact ⟨trivial, (Kp.refl _ _).below'⟩
  | true =>
    obtain ⟨hxl, hbl⟩ := hr rfl
    simp only [Bool.not_true, e_fd, e_nck, e_pkt, e_pkf, e_gdtt, e_gdtf, e_gdft, e_gdff, e_ift, e_iff, e_not, e_ln, e_lnT, e_cp, e_cvi, e_ex20, e_ex21, e_ex30, e_ex31, e_ex32, e_add, e_sub, e_mul, e_quo, e_rem, e_and, e_or, e_xor, e_shl, e_shr, e_eql, e_neq, e_lss, e_leq, e_gtr, e_geq, e_beq, e_bne, e_peq1, e_peq2, e_pne1, e_pne2, e_zeq1, e_zeq2, e_zne1, e_zne2, e_feq1, e_fne1, e_feq2, e_fne2, e_seq, e_sne, e_ta1, e_ta2, Nat.zero_add, Nat.add_zero, Bool.not_true, Bool.not_false]
    refine pj_ok2 fun w1 hk1 => ?_
    refine newRig_ok ⟨by decide, by decide⟩ hk1 fun w2 r e z2 hk2 => ?_
    obtain ⟨its, h1, h2, h3⟩ := hs
    have hil : its.length = xs.length := by rw [← h1, List.length_map]
    have hbl' : ∀ p ∈ its, p.1.bs.length ≤ 65536 := fun p hp => hbl _ (by rw [← h1]; exact List.mem_map_of_mem hp)
    refine h2.ln ?_
    unfold s5_p4
    refine loop_n its.length (fun i l w' => ∃ σ J, l = [P r 0, v, I (its.length : Nat), I (i : Nat)] ∧ Lz W Emp w' r e σ J ∧ σ.seq ≤ ((i : Nat) : Int)) ⟨_, _, rfl, z2, by simp [sg0]⟩ ?_ ?_
    · rintro i l w3 hi ⟨σ, J, rfl, z3, hq3⟩ B hB
      rw [s5_p4_Fe]
      unfold s5_p3
      have hp := h3 _ (List.getElem_mem hi)
      have hbi := hbl' _ (List.getElem_mem hi)
      simp only [dlt hi, e_lss, e_ift]
      refine each_r rfl (h2.kp' z3.k) hi (opC_len _) (by simp only [opC, List.all_cons, List.all_nil, hp.1.scal]; rfl) fun w4 r4 hk4 hz4 => ?_
      have z4 := z3.new hk4 (Nat.le_refl _) (show w3.heap.size < w4.heap.size by omega)
      refine ldn_r r4 (show 0 + 4 ≤ 4 by decide) ?_
      refine isReq_ok (p := its[i]) fun w5 hk5 => ?_
      have z5 := z4.emp hk5
      have r5 := hk5.row' r4
      generalize its[i] = op at hp hbi r5 ⊢
      have next : ∀ {w6 : World} {V6 : Nat → Prop} {σ' : Sg} {J' : Jr}, Lz W V6 w6 r e σ' J' → σ'.seq ≤ ((i + 1 : Nat) : Int) → s5_p2 (fun e W' => e = .bool true ∧ Below W.heap.size W W') B (P r 0) v (I (its.length : Nat)) (I (i : Nat)) w6 := fun {w6 V6 σ' J'} z6 hq6 => by
        unfold s5_p2
        try simp only [e_fd, e_nck, e_pkt, e_pkf, e_gdtt, e_gdtf, e_gdft, e_gdff, e_ift, e_iff, e_not, e_ln, e_lnT, e_cp, e_cvi, e_ex20, e_ex21, e_ex30, e_ex31, e_ex32, e_add, e_sub, e_mul, e_quo, e_rem, e_and, e_or, e_xor, e_shl, e_shr, e_eql, e_neq, e_lss, e_leq, e_gtr, e_geq, e_beq, e_bne, e_peq1, e_peq2, e_pne1, e_pne2, e_zeq1, e_zeq2, e_zne1, e_zne2, e_feq1, e_fne1, e_feq2, e_fne2, e_seq, e_sne, e_ta1, e_ta2, Nat.zero_add, Nat.add_zero, Bool.not_true, Bool.not_false]
        rw [inc i (by omega)]
        exact hB _ _ ⟨σ', J', rfl, z6.sub fun c q => q.elim, hq6⟩
      -- the step is served
      have rest : ∀ c : Bool, c = false → ifb (.bool c) (s5_p2 (fun e W' => e = .bool true ∧ Below W.heap.size W W') B (P r 0) v (I (its.length : Nat)) (I (i : Nat)) w5) (fd 1 (P w3.heap.size 0) (fun t33 w => ld1 t33 (fun t34 w => cl Tryz.prog 13 #[t34] (fun t35 w =>   exq t35 0 (fun t36 w =>   exq t35 1 (fun t37 w =>   nw 49 #[(.int .u8 0), (.int .i64 0), (.int .i64 0), (.int .i64 0), (.int .i64 0), (.int .i64 0), (.int .i64 0), (.slice none 0 0)] (fun t6 w =>   stn 8 t6 t36 (fun w =>   boI .eql t37 (.int .i64 0) (fun t39 w =>   ifb t39   (ldn 8 t6 (fun t41 w =>   cl Tryz.prog 30 #[t41] (fun t42 w =>   exq t42 0 (fun t43 w =>   exq t42 1 (fun t44 w =>   un .not t44 (fun t46 w =>   gd t46 false (fun K w => K t43 w) (fun t48 w =>   gd t46 false (fd 1 (P w3.heap.size 0)) (fun t49 w =>   gd t46 false (ld1 t49) (fun t50 w =>   gd t46 false (cl Tryz.prog 27 #[t48, t50]) (fun t51 w =>   gd t46 false (un .not t51) (fun t52 w =>   pk t46 (.bool true) t52 (fun t53 w =>   ifb t53   ((fun (e : Value) (W' : World) => e = .bool true ∧ Below W.heap.size W W') (.bool false) w)   (fd 1 (P w3.heap.size 0) (fun t55 w =>   ld1 t55 (fun t56 w =>   cl Tryz.prog 11 #[(P r 0), t56] (fun t57 w =>   cl Tryz.prog 14 #[t57] (fun t60 w =>   exq t60 0 (fun t61 w =>   exq t60 1 (fun t62 w =>   nw 46 zRep (fun t11 w =>   stn 34 t11 t61 (fun w =>   un .not t62 (fun t64 w =>   gd t64 false (ldn 34 t11) (fun t66 w =>   gd t64 false (cl Tryz.prog 31 #[t66]) (fun t67 w =>   gd t64 false (fun K w => K t57 w) (fun t68 w =>   gd t64 false (cl Tryz.prog 27 #[t67, t68]) (fun t69 w =>   gd t64 false (un .not t69) (fun t70 w =>   pk t64 (.bool true) t70 (fun t71 w =>   ifb t71   ((fun (e : Value) (W' : World) => e = .bool true ∧ Below W.heap.size W W') (.bool false) w)   (fd 1 (P w3.heap.size 0) (fun t72 w =>   ld1 t72 (fun t73 w =>   cl Tryz.prog 32 #[t73] (fun t74 w =>   boS .eql t74 (.string ⟨#[]⟩) (fun t75 w =>   gd t75 false (fun K w => K t57 w) (fun t77 w =>   gd t75 false (cl Tryz.prog 33 #[t77]) (fun t78 w =>   gd t75 false (boS .eql t78 (.string ⟨#[]⟩)) (fun t79 w =>   pk t75 (.bool true) t79 (fun t80 w =>   gd t80 false (fd 1 (P w3.heap.size 0)) (fun t82 w =>   gd t80 false (ld1 t82) (fun t83 w =>   gd t80 false (cl Tryz.prog 33 #[t83]) (fun t84 w =>   gd t80 false (boS .eql t84 (.string ⟨#[]⟩)) (fun t85 w =>   pk t80 (.bool true) t85 (fun t86 w =>   ifb t86   ((fun (e : Value) (W' : World) => e = .bool true ∧ Below W.heap.size W W') (.bool false) w)   (s5_p2 (fun e W' => e = .bool true ∧ Below W.heap.size W W') B (P r 0) v (I (its.length : Nat)) (I (i : Nat)) w)) w) w) w) w) w) w) w) w) w) w) w) w) w)) w) w) w) w) w) w) w) w) w) w) w) w) w) w) w)) w) w) w) w) w) w) w) w) w) w) w)   (fd 1 (P w3.heap.size 0) (fun t55_2 w =>   ld1 t55_2 (fun t56_2 w =>   cl Tryz.prog 11 #[(P r 0), t56_2] (fun t57_2 w =>   cl Tryz.prog 14 #[t57_2] (fun t60_2 w =>   exq t60_2 0 (fun t61_2 w =>   exq t60_2 1 (fun t62_2 w =>   nw 46 zRep (fun t11_2 w =>   stn 34 t11_2 t61_2 (fun w =>   un .not t62_2 (fun t64_2 w =>   gd t64_2 false (ldn 34 t11_2) (fun t66_2 w =>   gd t64_2 false (cl Tryz.prog 31 #[t66_2]) (fun t67_2 w =>   gd t64_2 false (fun K w => K t57_2 w) (fun t68_2 w =>   gd t64_2 false (cl Tryz.prog 27 #[t67_2, t68_2]) (fun t69_2 w =>   gd t64_2 false (un .not t69_2) (fun t70_2 w =>   pk t64_2 (.bool true) t70_2 (fun t71_2 w =>   ifb t71_2   ((fun (e : Value) (W' : World) => e = .bool true ∧ Below W.heap.size W W') (.bool false) w)   (fd 1 (P w3.heap.size 0) (fun t72_2 w =>   ld1 t72_2 (fun t73_2 w =>   cl Tryz.prog 32 #[t73_2] (fun t74_2 w =>   boS .eql t74_2 (.string ⟨#[]⟩) (fun t75_2 w =>   gd t75_2 false (fun K w => K t57_2 w) (fun t77_2 w =>   gd t75_2 false (cl Tryz.prog 33 #[t77_2]) (fun t78_2 w =>   gd t75_2 false (boS .eql t78_2 (.string ⟨#[]⟩)) (fun t79_2 w =>   pk t75_2 (.bool true) t79_2 (fun t80_2 w =>   gd t80_2 false (fd 1 (P w3.heap.size 0)) (fun t82_2 w =>   gd t80_2 false (ld1 t82_2) (fun t83_2 w =>   gd t80_2 false (cl Tryz.prog 33 #[t83_2]) (fun t84_2 w =>   gd t80_2 false (boS .eql t84_2 (.string ⟨#[]⟩)) (fun t85_2 w =>   pk t80_2 (.bool true) t85_2 (fun t86_2 w =>   ifb t86_2   ((fun (e : Value) (W' : World) => e = .bool true ∧ Below W.heap.size W W') (.bool false) w)   (s5_p2 (fun e W' => e = .bool true ∧ Below W.heap.size W W') B (P r 0) v (I (its.length : Nat)) (I (i : Nat)) w)) w) w) w) w) w) w) w) w) w) w) w) w) w)) w) w) w) w) w) w) w) w) w) w) w) w) w) w) w)) w) w) w) w) w) w) w) w5) := by
        intro c hc
        subst hc
        refine sw_f ?_
        refine fdp (ld1_r (v := op.2) r5 rfl ?_)
        have szz := z5.k.size
        refine dec_ok (hp.1.kp' z5.k) hp.2.1 (fun b q => by omega) fun w6 l6 hk6 hq6 => ?_
        obtain ⟨lv6, rfl, hl6⟩ := hq6
        have z6 := z5.emp hk6
        simp only [ex2_0, ex2_1]
        refine nw_r fun w7 r7 hk7 hz7 => ?_
        refine stn_r (cs := (dec op.1.bs).1.cells lv6) r7 rfl (show 0 + 8 ≤ 8 by decide) (by unfold Rq.cells; simp only [List.all_cons, List.all_nil, hl6.scal]; rfl) fun w8 r8 hk8 hz8 => ?_
        replace r8 : Row w8 w6.heap.size 49 ((dec op.1.bs).1.cells lv6) := r8
        have z8 := (z6.new hk7 (Nat.le_refl _) (by omega)).wr hk8 fun b (q : b = _) => .inr q
        have k68 : Kp Emp w6 w8 := hk7.then hk8 fun b hb (q : b = _) => by omega
        have k58 := hk6.trans k68
        have r58 := k58.row' r5
        have hqq := hndS_q park op.1.bs σ J
        have tail : ∀ (w9 : World), Kp Emp w8 w9 → codT (fun e W' => e = .bool true ∧ Below W.heap.size W W') B (P r 0) v (I (its.length : Nat)) (I (i : Nat)) (P w3.heap.size 0) w9 := by
          intro w9 hk9
          refine cod_tail hg (z8.emp hk9) (by omega) (hk9.row' r58) (.inl (.inr rfl)) hp.1 hp.2.1 hbi fun w10 V10 z10 => next z10 (by omega)
        by_cases h0 : (dec op.1.bs).2 = 0
        · refine bo_yes (by rw [h0]; rfl) ?_
          refine sw_t ?_
          have hN := dec_x h0
          refine ldn_r r8 (show 0 + 8 ≤ 8 by decide) ?_
          have sz68 := k68.size
          refine encReq_ok (show Qv (Nb w5 w6) w8 ((dec op.1.bs).1.cells lv6) (dec op.1.bs).1 from ⟨lv6, rfl, hl6.kp' k68⟩) hN.rq ⟨fun q => (by rw [hN.x] at q; cases q), fun _ w9 v9 b9 sl9 hb9 hk9 => ?_⟩
          rw [enc_dec hp.2.1 h0] at sl9
          simp only [ex2_0, ex2_1, Bool.not_true, e_not]
          refine gff (gff (fdp (gff (ld1_r (v := op.2) (hk9.row' r58) rfl ?_))))
          refine gff ?_
          have z9 := z8.emp hk9
          refine sameB_ok (sl9.arb (by omega)) (hp.1.kp' z9.k) fun w10 hk10 => ?_
          rw [decide_eq_true rfl]
          refine gff ?_
          simp only [Bool.not_true, e_not]
          refine pkf (sw_f ?_)
          exact tail w10 (hk9.trans hk10)
        · refine bo_no (by rw [beq_eq_false_iff_ne]; omega) ?_
          refine sw_f ?_
          exact tail w8 (Kp.refl _ _)
      cases hk : (op.1.kind == 0 || op.1.kind == 4) with
      | false =>
        simp only [Bool.not_false, e_not]
        refine gt (fdp ?_)
        refine gt (ld1_r (v := I op.1.kind) r5 rfl ?_)
        refine gt ?_
        simp only [e_neq]
        refine pkt ?_
        cases h3' : (op.1.kind != 3) with
        | true => exact sw_t (next z5 (by omega))
        | false => exact rest false rfl
      | true =>
        simp only [Bool.not_true, e_not]
        refine gf (gf (gf (pkf ?_)))
        exact rest false rfl
    · rintro l w3 ⟨σ, J, rfl, z3, hq3⟩ B
      rw [s5_p4_Fe]
      unfold s5_p3
      simp only [dnlt, e_lss, e_iff]
      unfold s5_p1
      exact ⟨rfl, z3.k.below'⟩
end
end Go.Proofs.Qxb6500896aGreatDoor
