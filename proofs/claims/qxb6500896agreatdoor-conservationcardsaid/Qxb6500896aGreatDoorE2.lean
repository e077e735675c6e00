import Derived.Test.Qxb6500896aGreatDoorE1
namespace Go.Proofs.Qxb6500896aGreatDoor
open Go.Sh Go.RowKit Classical
set_option linter.unusedVariables false
set_option linter.unusedSimpArgs false

theorem g_f0 {K : Value → World → Prop} {w : World} {X : (Value → World → Prop) → World → Prop} (h : K undef w) : gd (.bool false) true X K w := ⟨h⟩
theorem g_un {K : Value → World → Prop} {w : World} {X : (Value → World → Prop) → World → Prop} {b : Bool} (h : K undef w) : gd undef b X K w := ⟨h⟩
section
variable {F G : Nat → Prop} {W w w' : World} {K : Value → World → Prop} {B1 : List Value → World → Prop} {A B : List Rec} {av bv t3 t4 t6 t9 t10 t11 t30 t31 t32 : Value}
set_option maxHeartbeats 4000000 in
theorem cmp_ok (hG : Gm W) (hk : Kp Emp W w) (hA : Ro F w av A) (hB : Ro G w bv B) (hr : Rel B A) (hid : Ids A) (hst : ∀ x ∈ A, 1 ≤ x.st ∧ x.st ≤ 9) (hstB : ∀ x ∈ B, 1 ≤ x.st ∧ x.st ≤ 9) (hlA : A.length ≤ 1000)
    (hK : ∀ w', Kp Emp w w' → s3_p5 K B1 t3 t4 bv t6 t9 t10 t11 av t30 t31 t32 w') : s3_p8 K B1 t3 t4 bv t6 t9 t10 t11 av t30 t31 t32 av (I (A.length : Nat)) (I (0 : Nat)) w := by
  have hlB := hr.1
  obtain ⟨ia, a1, a2, a3⟩ := id hA
  obtain ⟨ib, b1, b2, b3⟩ := id hB
  have la : ia.length = A.length := by rw [← a1, List.length_map]
  have lb : ib.length = B.length := by rw [← b1, List.length_map]
  unfold s3_p8
  refine loop_n A.length (fun i l w' => l = [t3, t4, bv, t6, t9, t10, t11, av, t30, t31, t32, av, I (A.length : Nat), I (i : Nat)] ∧ Kp Emp w w') ⟨rfl, Kp.refl _ _⟩ ?_ ?_
  · rintro i l w1 hi ⟨rfl, k1⟩ B2 hB2
    rw [s3_p8_Fe]
    unfold s3_p7
    simp only [dlt hi, e_lss, e_ift]
    have hi2 : i < ia.length := by omega
    have ei : ia[i].1 = A[i] := by
      have : (ia.map (·.1))[i]? = A[i]? := by rw [a1]
      rw [List.getElem?_map, List.getElem?_eq_getElem hi2, List.getElem?_eq_getElem hi] at this
      exact Option.some.inj this
    have hla := a3 _ (List.getElem_mem hi2)
    refine each_r rfl (a2.kp' k1) hi2 (rC_len _) (rC_sc hla.scal) fun w2 r2 hk2 hz2 => ?_
    have k2 := k1.trans hk2
    have sA := hst _ (List.getElem_mem hi)
    have eid := hid i hi
    generalize ia[i] = pa at ei hla r2
    generalize hxA : A[i] = y at ei sA eid
    have nxt : ∀ w3, Kp Emp w w3 → s3_p6 K B1 B2 t3 t4 bv t6 t9 t10 t11 av t30 t31 t32 av (I (A.length : Nat)) (I (i : Nat)) w3 := fun w3 k3 => by
      unfold s3_p6
      simp only [e_add]
      rw [inc i (by omega)]
      exact hB2 _ _ ⟨rfl, k3⟩
    refine fdp (ld1_r (v := I pa.1.id) r2 rfl ?_)
    simp only [e_add]
    rw [inc i (by omega), ei]
    have e0 : (y.id != ((i + 1 : Nat) : Int)) = false := by rw [eid]; simp
    simp only [e_neq, e0, e_gdff]
    refine fdp (ld1_r (v := I pa.1.st) r2 rfl ?_)
    rw [ei]
    simp only [e_gdff, e_leq, decide_eq_false (show ¬ y.st ≤ 0 by omega), e_pkf]
    refine fdp (ld1_r (v := I pa.1.st) r2 rfl ?_)
    rw [ei]
    simp only [e_gdff, e_geq, decide_eq_false (show ¬ (10 : Int) ≤ y.st by omega), e_pkf, e_iff]
    refine hB.ln ?_
    by_cases hib : B.length ≤ i
    · simp only [e_geq, decide_eq_true (show ((B.length : Nat) : Int) ≤ ((i : Nat) : Int) by omega), e_ift]
      exact nxt w2 k2
    · simp only [e_geq, decide_eq_false (show ¬ ((B.length : Nat) : Int) ≤ ((i : Nat) : Int) by omega), e_iff]
      have hi3 : i < ib.length := by omega
      have hi4 : i < B.length := by omega
      have eb : ib[i].1 = B[i] := by
        have : (ib.map (·.1))[i]? = B[i]? := by rw [b1]
        rw [List.getElem?_map, List.getElem?_eq_getElem hi3, List.getElem?_eq_getElem hi4] at this
        exact Option.some.inj this
      have hlb := b3 _ (List.getElem_mem hi3)
      refine each_r rfl (b2.kp' k2) hi3 (rC_len _) (rC_sc hlb.scal) fun w3 r3 hk3 hz3 => ?_
      have k3 := k2.trans hk3
      have r23 := hk3.row' r2
      have sB := hstB _ (List.getElem_mem hi4)
      have hR : RelR B[i] y := hr.2 i _ _ (List.getElem?_eq_getElem hi4) (by rw [List.getElem?_eq_getElem hi, hxA])
      generalize ib[i] = pb at eb hlb r3
      generalize B[i] = x at eb sB hR
      refine fdp (ld1_r (v := I pa.1.st) r23 rfl ?_)
      refine fdp (ld1_r (v := I pb.1.st) r3 rfl ?_)
      rw [ei, eb]
      -- from the fields on
      have rest : ∀ w4, Kp Emp w3 w4 → fd 2 (P w1.heap.size 0) (fun t136 w => ld1 t136 (fun t137 w => fd 2 (P w2.heap.size 0) (fun t138 w => ld1 t138 (fun t139 w => boI .neq t137 t139 (fun t140 w =>
          gd t140 false (fd 3 (P w1.heap.size 0)) (fun t142 w => gd t140 false (ld1 t142) (fun t143 w => gd t140 false (fd 3 (P w2.heap.size 0)) (fun t144 w => gd t140 false (ld1 t144) (fun t145 w => gd t140 false (boI .neq t143 t145) (fun t146 w => pk t140 (.bool true) t146 (fun t147 w =>
          gd t147 false (fd 4 (P w1.heap.size 0)) (fun t149 w => gd t147 false (ld1 t149) (fun t150 w => gd t147 false (fd 4 (P w2.heap.size 0)) (fun t151 w => gd t147 false (ld1 t151) (fun t152 w => gd t147 false (boI .neq t150 t152) (fun t153 w => pk t147 (.bool true) t153 (fun t154 w =>
          gd t154 false (fd 5 (P w1.heap.size 0)) (fun t156 w => gd t154 false (ld1 t156) (fun t157 w => gd t154 false (fd 5 (P w2.heap.size 0)) (fun t158 w => gd t154 false (ld1 t158) (fun t159 w => gd t154 false (boI .neq t157 t159) (fun t160 w => pk t154 (.bool true) t160 (fun t161 w =>
          ifb t161 (K (.bool false) w) (fd 6 (P w1.heap.size 0) (fun t162 w => ld1 t162 (fun t163 w => fd 6 (P w2.heap.size 0) (fun t164 w => ld1 t164 (fun t165 w => cl Tryz.prog 19 #[t163, t165] (fun t166 w => un .not t166 (fun t167 w =>
          ifb t167 (fd 1 (P w2.heap.size 0) (fun t168 w => ld1 t168 (fun t169 w => boI .eql t169 (.int .i64 7) (fun t170 w =>
            gd t170 true (fd 1 (P w1.heap.size 0)) (fun t172 w => gd t170 true (ld1 t172) (fun t173 w => gd t170 true (boI .eql t173 (.int .i64 8)) (fun t174 w => pk t170 t174 (.bool false) (fun t175 w =>
            fd 1 (P w1.heap.size 0) (fun t176 w => ld1 t176 (fun t177 w => fd 1 (P w2.heap.size 0) (fun t178 w => ld1 t178 (fun t179 w => boI .eql t177 t179 (fun t180 w =>
            gd t180 true (fd 1 (P w1.heap.size 0)) (fun t182 w => gd t180 true (ld1 t182) (fun t183 w => gd t180 true (boI .eql t183 (.int .i64 1)) (fun t184 w => gd t180 true (fun K w => K t184 w) (fun t185 w =>
            gd t185 false (fd 1 (P w1.heap.size 0)) (fun t186 w => gd t185 false (ld1 t186) (fun t187 w => gd t185 false (boI .eql t187 (.int .i64 2)) (fun t188 w => gd t180 true (pk t185 (.bool true) t188) (fun t189 w => pk t180 t189 (.bool false) (fun t190 w =>
            un .not t175 (fun t192 w => gd t192 true (fun K w => K t190 w) (fun t194 w => gd t192 true (un .not t194) (fun t195 w => pk t192 t195 (.bool false) (fun t196 w =>
            ifb t196 (K (.bool false) w) (s3_p6 K B1 B2 t3 t4 bv t6 t9 t10 t11 av t30 t31 t32 av (I (A.length : Nat)) (I (i : Nat)) w)) w) w) w) w) w) w) w) w) w) w) w) w) w) w) w) w) w) w) w) w) w) w) w) w) w)
          (s3_p6 K B1 B2 t3 t4 bv t6 t9 t10 t11 av t30 t31 t32 av (I (A.length : Nat)) (I (i : Nat)) w)) w) w) w) w) w) w)) w) w) w) w) w) w) w) w) w) w) w) w) w) w) w) w) w) w) w) w) w) w) w4 := by
        intro w4 k4
        have ra := k4.row' r23
        have rb := k4.row' r3
        have k4' := k3.trans k4
        have e2 : (pa.1.cl != pb.1.cl) = false := by rw [ei, eb, hR.cl]; simp
        have e3 : (pa.1.sz != pb.1.sz) = false := by rw [ei, eb, hR.sz]; simp
        have e4 : (pa.1.ln != pb.1.ln) = false := by rw [ei, eb, hR.ln]; simp
        have e5 : (pa.1.ex != pb.1.ex) = false := by rw [ei, eb, hR.ex]; simp
        refine fdp (ld1_r (v := I pa.1.cl) ra rfl ?_)
        refine fdp (ld1_r (v := I pb.1.cl) rb rfl ?_)
        simp only [e_neq, e2, e_gdff]
        refine fdp (ld1_r (v := I pa.1.sz) ra rfl ?_)
        refine fdp (ld1_r (v := I pb.1.sz) rb rfl ?_)
        simp only [e_gdff, e_neq, e3, e_pkf]
        refine fdp (ld1_r (v := I pa.1.ln) ra rfl ?_)
        refine fdp (ld1_r (v := I pb.1.ln) rb rfl ?_)
        simp only [e_gdff, e_neq, e4, e_pkf]
        refine fdp (ld1_r (v := I pa.1.ex) ra rfl ?_)
        refine fdp (ld1_r (v := I pb.1.ex) rb rfl ?_)
        simp only [e_gdff, e_neq, e5, e_pkf, e_iff]
        refine fdp (ld1_r (v := pa.2) ra rfl ?_)
        refine fdp (ld1_r (v := pb.2) rb rfl ?_)
        refine sameLegs_ok (hla.kp' k4') (hlb.kp' k4') fun w5 k5 => ?_
        have k5' := k4'.trans k5
        have ra5 := k5.row' ra
        have rb5 := k5.row' rb
        rw [ei, eb]
        by_cases hl : y.legs = x.legs
        · simp only [decide_eq_true hl, e_not, Bool.not_true, e_iff]
          exact nxt w5 k5'
        · simp only [decide_eq_false hl, e_not, Bool.not_false, e_ift]
          refine fdp (ld1_r (v := I pb.1.st) rb5 rfl ?_)
          rw [eb]
          rcases hR.lg with q | ⟨q1, q2⟩ | ⟨q1, q2⟩
          · exact absurd q hl
          · have f1 : (x.st == 7) = true := by rw [q1]; rfl
            simp only [e_eql, f1, e_gdtt]
            refine fdp (ld1_r (v := I pa.1.st) ra5 rfl ?_)
            rw [ei]
            have f2 : (y.st == 8) = true := by rw [q2]; rfl
            simp only [e_gdtt, e_eql, f2, e_pkt]
            refine fdp (ld1_r (v := I pa.1.st) ra5 rfl ?_)
            refine fdp (ld1_r (v := I pb.1.st) rb5 rfl ?_)
            rw [ei, eb]
            have f3 : (y.st == x.st) = false := by rw [q1, q2]; rfl
            simp only [e_eql, f3, e_gdft]
            refine g_un (g_un (g_un ?_))
            refine g_f0 ?_
            simp only [e_pkf, e_not, Bool.not_true, e_gdft, e_iff]
            exact nxt w5 k5'
          · have f1 : (x.st == 7) = false := by rw [← q1, beq_eq_false_iff_ne]; omega
            simp only [e_eql, f1, e_gdft, e_pkf]
            refine fdp (ld1_r (v := I pa.1.st) ra5 rfl ?_)
            refine fdp (ld1_r (v := I pb.1.st) rb5 rfl ?_)
            rw [ei, eb]
            have f3 : (y.st == x.st) = true := by rw [q1]; simp
            simp only [e_eql, f3, e_gdtt]
            refine fdp (ld1_r (v := I pa.1.st) ra5 rfl ?_)
            rw [ei]
            simp only [e_gdtt, e_eql]
            rcases q2 with q2 | q2
            · have f4 : (y.st == 1) = true := by rw [q2]; rfl
              simp only [f4, e_gdtf, e_pkt, e_gdtt, e_not, Bool.not_false, Bool.not_true, e_iff]
              exact nxt w5 k5'
            · have f4 : (y.st == 1) = false := by rw [q2]; rfl
              simp only [f4, e_gdff]
              refine fdp (ld1_r (v := I pa.1.st) ra5 rfl ?_)
              rw [ei]
              have f5 : (y.st == 2) = true := by rw [q2]; rfl
              simp only [e_gdff, e_eql, f5, e_gdtt, e_pkf, e_pkt, e_not, Bool.not_false, Bool.not_true, e_iff]
              exact nxt w5 k5'
      by_cases hs : y.st = x.st
      · have f0 : (y.st != x.st) = false := by rw [hs]; simp
        simp only [e_neq, f0, e_gdft, e_pkf, e_iff]
        exact rest w3 (Kp.refl _ _)
      · have f0 : (y.st != x.st) = true := by rw [bne_iff_ne]; exact hs
        simp only [e_neq, f0, e_gdtt]
        refine fdp (ld1_r (v := I pb.1.st) r3 rfl ?_)
        refine fdp (ld1_r (v := I pa.1.st) r23 rfl ?_)
        rw [ei, eb]
        refine mayMove_ok hG (hk.trans k3) sB fun w4 k4 => ?_
        have hm : y.st ∈ moves x.st := by
          rcases hR.st with q | q
          · exact absurd q hs
          · exact q
        simp only [decide_eq_true hm, e_gdtt, e_not, Bool.not_true, e_pkt, e_iff]
        exact rest w4 k4
  · rintro l w1 ⟨rfl, k1⟩ B2
    rw [s3_p8_Fe]
    unfold s3_p7
    simp only [dnlt, e_lss, e_iff]
    exact hK w1 k1
end
end Go.Proofs.Qxb6500896aGreatDoor
