import Derived.Test.Qxb6500896aGreatDoorE2
namespace Go.Proofs.Qxb6500896aGreatDoor
open Go.Sh Go.RowKit Classical
set_option linter.unusedVariables false
set_option linter.unusedSimpArgs false

set_option maxRecDepth 100000 in
theorem um_gr : Tryz.prog.underlying 33 = some (.map 3 4) := by kernel_rfl
set_option maxRecDepth 100000 in
theorem um_int : Tryz.prog.underlying 3 = some (.int .i64) := by kernel_rfl
set_option maxRecDepth 100000 in
theorem um_z (w : World) : (zeroValue 4).run Tryz.prog w = .ok (.bool false) w := by kernel_rfl
section
variable {F G : Nat → Prop} {W w w' : World} {K : Value → World → Prop} {B1 : List Value → World → Prop} {A B : List Rec} {av bv t3 t4 t6 t9 t10 t11 t30 t31 t32 lv : Value} {q : Rq} {gb b9 b10 : Nat} {ns : List Int} {l9 : List Value} {code idv : Int}
/-- the legs of a record that is only read -/
theorem ro_legs {j : Nat} {X : Value → World → Prop} {rv : Value} {rs : List Rec} {k : IntKind} (h : Ro F w rv rs) (hj : j < rs.length) (hX : ∀ lv, Ar lC 2 F w lv rs[j].legs → X lv w) : ixs 7 rv (.int k (j : Nat)) (fun t w => fd 6 t (fun t w => ld1 t X w) w) w := by
  obtain ⟨its, e1, e2, e3⟩ := h
  have hil : its.length = rs.length := by rw [← e1, List.length_map]
  have hj2 : j < its.length := by omega
  have ei : its[j].1 = rs[j] := by
    have : (its.map (·.1))[j]? = rs[j]? := by rw [e1]
    rw [List.getElem?_map, List.getElem?_eq_getElem hj2, List.getElem?_eq_getElem hj] at this
    exact Option.some.inj this
  refine e2.ix hj2 fun b o _ cc => ?_
  simp only [e_fd]
  refine cc.ld1 (j := 6) (v := its[j].2) rfl ?_
  have := e3 _ (List.getElem_mem hj2)
  rw [ei] at this
  exact hX _ this
theorem p4_no (hK : s3_p2 K B1 t3 t4 av t6 t30 t31 t32 w) : s3_p4 K B1 t3 t4 bv t6 t9 t10 (.bool false) av t30 t31 t32 w := by
  unfold s3_p4
  simp only [e_gdft, e_pkf, e_iff]
  unfold s3_p3
  exact hK
/-- nothing was answered -/
theorem p5_no (hK : s3_p2 K B1 t3 t4 av t6 t30 t31 t32 w) : s3_p5 K B1 t3 t4 bv t6 t9 t10 (.bool false) av t30 t31 t32 w := by
  unfold s3_p5
  simp only [e_gdft, e_pkf]
  refine g_un (g_un (g_un ?_))
  simp only [e_gdft, e_pkf, e_iff]
  exact p4_no hK
set_option maxHeartbeats 2000000 in
/-- a rebooking -/
theorem p4_ok (hA : Ro F w av A) (hB : Ro G w bv B) (hAB : B.length ≤ A.length) (hlA : A.length ≤ 1000) (r9 : Row w b9 46 l9) (h90 : l9[0]? = some (I code)) (r10 : Row w b10 49 (q.cells lv)) (hlv : Ar lC 2 G w lv q.legs)
    (hreb : q.op = 5 → has B q.id → (rget A q.id).legs = if code = 0 then q.legs else (rget B q.id).legs)
    (hK : ∀ w', Kp Emp w w' → s3_p2 K B1 t3 t4 av t6 t30 t31 t32 w') : s3_p4 K B1 t3 t4 bv t6 (P b9 0) (P b10 0) (.bool true) av t30 t31 t32 w := by
  unfold s3_p4
  have no : s3_p3 K B1 t3 t4 t6 av t30 t31 t32 w := by
    unfold s3_p3
    exact hK w (Kp.refl _ _)
  simp only [e_gdtt, e_pkt]
  refine fdp (ld1_r (v := U8 q.op) r10 rfl ?_)
  by_cases h5 : q.op = 5
  · have e5 : (q.op == 5) = true := by rw [h5]; rfl
    simp only [e_eql, e5, e_gdtt]
    refine fdp (ld1_r (v := I q.id) r10 rfl ?_)
    by_cases h1 : 1 ≤ q.id
    · simp only [e_geq, decide_eq_true h1, e_pkt, e_gdtt]
      refine fdp (ld1_r (v := I q.id) r10 rfl ?_)
      refine hB.ln ?_
      by_cases h2 : q.id ≤ ((B.length : Nat) : Int)
      · simp only [e_leq, decide_eq_true h2, e_pkt, e_ift]
        have hh : has B q.id := ⟨h1, h2⟩
        obtain ⟨j, hid, hj⟩ := has_at hh
        have hjA : j < A.length := by omega
        have hr := hreb h5 hh
        rw [rget_at hid hj, rget_at hid hjA] at hr
        refine fdp (ld1_r (v := I q.id) r10 rfl ?_)
        simp only [e_sub]
        rw [wrap64_id (by omega) (by omega), show q.id - 1 = ((j : Nat) : Int) by omega]
        refine ro_legs hB hj fun lb hlb => ?_
        refine fdp (ld1_r (v := I code) r9 h90 ?_)
        -- the end
        have fin : ∀ (u : Value) (ls : List Leg), Ar lC 2 G w u ls → A[j].legs = ls → fd 1 (P b10 0) (fun t266 w => ld1 t266 (fun t267 w => boI .sub t267 (.int .i64 1) (fun t268 w => ixs 7 av t268 (fun t269 w => fd 6 t269 (fun t270 w => ld1 t270 (fun t271 w => cl Tryz.prog 19 #[t271, u] (fun t273 w => un .not t273 (fun t274 w => ifb t274 (K (.bool false) w) (s3_p3 K B1 t3 t4 t6 av t30 t31 t32 w)) w) w) w) w) w) w) w) w := by
          intro u ls hu he
          refine fdp (ld1_r (v := I q.id) r10 rfl ?_)
          simp only [e_sub]
          rw [wrap64_id (by omega) (by omega), show q.id - 1 = ((j : Nat) : Int) by omega]
          refine ro_legs hA hjA fun la hla => ?_
          refine sameLegs_ok hla hu fun w1 k1 => ?_
          rw [decide_eq_true he]
          simp only [e_not, Bool.not_true, e_iff]
          unfold s3_p3
          exact hK w1 k1
        by_cases hc : code = 0
        · have ec : (code == 0) = true := by rw [hc]; rfl
          rw [if_pos hc] at hr
          simp only [e_eql, ec, e_ift]
          refine fdp (ld1_r (v := lv) r10 rfl ?_)
          exact fin lv q.legs hlv hr
        · have ec : (code == 0) = false := by rw [beq_eq_false_iff_ne]; exact hc
          rw [if_neg hc] at hr
          simp only [e_eql, ec, e_iff]
          exact fin lb B[j].legs hlb hr
      · simp only [e_leq, decide_eq_false h2, e_pkt, e_iff]
        exact no
    · simp only [e_geq, decide_eq_false h1, e_pkt, e_gdft, e_pkf, e_iff]
      exact no
  · have e5 : (q.op == 5) = false := by rw [beq_eq_false_iff_ne]; exact h5
    simp only [e_eql, e5, e_gdft, e_pkf, e_iff]
    exact no
set_option maxHeartbeats 2000000 in
/-- a reply -/
theorem p5_ok (hA : Ro F w av A) (hB : Ro G w bv B) (hAB : B.length ≤ A.length) (hlA : A.length ≤ 1000) (r9 : Row w b9 46 l9) (h90 : l9[0]? = some (I code)) (h92 : l9[2]? = some (I idv)) (r10 : Row w b10 49 (q.cells lv)) (hlv : Ar lC 2 G w lv q.legs)
    (hF : ∀ b, F b → b ≠ gb) (hG : ∀ b, G b → b ≠ gb)
    (hnew : code = 0 → (q.op = 1 ∨ q.op = 6) → idv = ((A.length : Nat) : Int) ∧ A.length = B.length + 1)
    (hreb : q.op = 5 → has B q.id → (rget A q.id).legs = if code = 0 then q.legs else (rget B q.id).legs)
    (hm : MapAt w gb .i64 ns) (hns : ∀ n ∈ ns, n ≤ ((B.length : Nat) : Int))
    (hK : ∀ w' ns', MapAt w' gb .i64 ns' → (∀ n ∈ ns', n ≤ ((A.length : Nat) : Int)) → Kp (fun b => b = gb) w w' → s3_p2 K B1 t3 t4 av (.map (some gb)) t30 t31 t32 w') : s3_p5 K B1 t3 t4 bv (.map (some gb)) (P b9 0) (P b10 0) (.bool true) av t30 t31 t32 w := by
  unfold s3_p5
  have no : s3_p4 K B1 t3 t4 bv (.map (some gb)) (P b9 0) (P b10 0) (.bool true) av t30 t31 t32 w :=
    p4_ok hA hB hAB hlA r9 h90 r10 hlv hreb fun w1 k1 => hK w1 ns (hm.kp k1 fun q => q) (fun n hn => by have := hns n hn; omega) k1.none
  simp only [e_gdtt, e_pkt]
  refine fdp (ld1_r (v := I code) r9 h90 ?_)
  by_cases hc : code = 0
  · have ec : (code == 0) = true := by rw [hc]; rfl
    simp only [e_eql, ec, e_gdtt, e_pkt]
    refine fdp (ld1_r (v := U8 q.op) r10 rfl ?_)
    -- granted
    have yes : (q.op = 1 ∨ q.op = 6) → fd 2 (P b9 0) (fun t215 w => ld1 t215 (fun t216 w => Go.Sh.rs Tryz.prog (Instr.lookup 33 (.map (some gb)) t216 false) (fun t217 w =>
        gd t217 false (fd 2 (P b9 0)) (fun t219 w => gd t217 false (ld1 t219) (fun t220 w => gd t217 false (fun K w => K av w) (fun t221 w => gd t217 false (lnS t221) (fun t222 w => gd t217 false (boI .neq t220 t222) (fun t223 w => pk t217 (.bool true) t223 (fun t224 w =>
        gd t224 false (fd 2 (P b9 0)) (fun t226 w => gd t224 false (ld1 t226) (fun t227 w => gd t224 false (fun K w => K bv w) (fun t228 w => gd t224 false (lnS t228) (fun t229 w => gd t224 false (boI .leq t227 t229) (fun t230 w => pk t224 (.bool true) t230 (fun t231 w =>
        ifb t231 (K (.bool false) w) (fd 2 (P b9 0) (fun t233 w => ld1 t233 (fun t234 w => ru Tryz.prog (Instr.mapUpdate 33 (.map (some gb)) t234 (.bool true)) (fun w => s3_p4 K B1 t3 t4 bv (.map (some gb)) (P b9 0) (P b10 0) (.bool true) av t30 t31 t32 w) w) w) w)) w) w) w) w) w) w) w) w) w) w) w) w) w) w) w := by
      intro ho
      obtain ⟨n1, n2⟩ := hnew hc ho
      have hni : idv ∉ ns := fun hn => by have := hns _ hn; omega
      refine fdp (ld1_r (v := I idv) r9 h92 ?_)
      refine lk_map um_gr um_int (um_z w) hm hni ?_
      simp only [e_gdff, e_pkf]
      refine fdp (ld1_r (v := I idv) r9 h92 ?_)
      refine hA.ln ?_
      have e1 : (idv != ((A.length : Nat) : Int)) = false := by rw [n1]; simp
      simp only [e_neq, e1, e_gdff, e_pkf]
      refine fdp (ld1_r (v := I idv) r9 h92 ?_)
      refine hB.ln ?_
      simp only [e_leq, decide_eq_false (show ¬ idv ≤ ((B.length : Nat) : Int) by omega), e_iff]
      refine fdp (ld1_r (v := I idv) r9 h92 ?_)
      refine up_map um_gr um_int hm hni fun w1 hm1 hk1 hz1 => ?_
      have hA1 : Ro F w1 av A := by
        obtain ⟨its, e1, e2, e3⟩ := hA
        exact ⟨its, e1, e2.kp hk1 hF, fun p hp => (e3 p hp).kp hk1 hF⟩
      have hB1 : Ro G w1 bv B := by
        obtain ⟨its, e1, e2, e3⟩ := hB
        exact ⟨its, e1, e2.kp hk1 hG, fun p hp => (e3 p hp).kp hk1 hG⟩
      refine p4_ok hA1 hB1 hAB hlA (hk1.row r9 (hm.not_row r9)) h90 (hk1.row r10 (hm.not_row r10)) (hlv.kp hk1 hG) hreb fun w2 k2 => ?_
      refine hK w2 _ (hm1.kp k2 fun q => q) (fun n hn => ?_) (hk1.trans k2.none)
      rcases List.mem_append.1 hn with q | q
      · have := hns n q; omega
      · rw [List.mem_singleton.1 q]; omega
    by_cases h1 : q.op = 1
    · have e1 : (q.op == 1) = true := by rw [h1]; rfl
      simp only [e_eql, e1, e_gdtt, e_gdtf, e_pkt, e_ift]
      exact yes (.inl h1)
    · have e1 : (q.op == 1) = false := by rw [beq_eq_false_iff_ne]; exact h1
      simp only [e_eql, e1, e_gdff]
      refine fdp (ld1_r (v := U8 q.op) r10 rfl ?_)
      by_cases h6 : q.op = 6
      · have e6 : (q.op == 6) = true := by rw [h6]; rfl
        simp only [e_eql, e6, e_pkf, e_pkt, e_ift]
        exact yes (.inr h6)
      · have e6 : (q.op == 6) = false := by rw [beq_eq_false_iff_ne]; exact h6
        simp only [e_eql, e6, e_pkf, e_pkt, e_iff]
        exact no
  · have ec : (code == 0) = false := by rw [beq_eq_false_iff_ne]; exact hc
    simp only [e_eql, ec, e_gdft, e_pkt]
    refine g_un (g_un (g_un ?_))
    simp only [e_gdft, e_pkf, e_iff]
    exact no
end
end Go.Proofs.Qxb6500896aGreatDoor
