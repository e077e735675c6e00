import Derived.Test.Qxb6500896aGreatDoorN17
import Derived.Test.Qxb6500896aGreatDoorK87
import Derived.Test.Qxb6500896aGreatDoorGy
import Derived.Test.Qxb6500896aGreatDoorGt
namespace Go.Proofs.Qxb6500896aGreatDoor
open Go.Sh Go.RowKit
set_option linter.unusedVariables false
set_option linter.unusedSimpArgs false

section
variable {w w' w0 : World} {K : Value → World → Prop} {op : Int} {k : IntKind} {a b : Int}
theorem csw {X A : World → Prop} (h1 : (a == b) = true → X w) (h2 : (a == b) = false → A w) : boI .eql (.int k a) (.int k b) (fun t w => ifb t (X w) (A w)) w := by
  cases h : (a == b) with
  | true => exact sw_yes (A := fun _ w => X w) (B := fun _ w => A w) h (h1 h)
  | false => exact sw_no (A := fun _ w => X w) (B := fun _ w => A w) h (h2 h)
theorem ccat {x y : ByteArray} {X : Value → World → Prop} (h : x.size + y.size ≤ 1000000000) (hX : ∀ z : ByteArray, z.size = x.size + y.size → X (.string z) w) : boS .add (.string x) (.string y) X w :=
  ⟨by omega, hX _ ByteArray.size_append⟩
set_option maxHeartbeats 1000000 in
theorem copName_ok (ho : 0 ≤ op ∧ op ≤ 255) (hK : ∀ w' (s : ByteArray), Kp Emp w w' → K (.string s) w') : cl Tryz.prog 75 #[U8 op] K w := by
  apply c75
  unfold s75_p1
  iterate 18
    refine csw (fun _ => hK w _ (Kp.refl _ _)) fun _ => ?_
  try simp only [e_fd, e_nck, e_pkt, e_pkf, e_gdtt, e_gdtf, e_gdft, e_gdff, e_ift, e_iff, e_not, e_ln, e_lnT, e_cp, e_cvi, e_ex20, e_ex21, e_ex30, e_ex31, e_ex32, e_add, e_sub, e_mul, e_quo, e_rem, e_and, e_or, e_xor, e_shl, e_shr, e_eql, e_neq, e_lss, e_leq, e_gtr, e_geq, e_beq, e_bne, e_peq1, e_peq2, e_pne1, e_pne2, e_zeq1, e_zeq2, e_zne1, e_zne2, e_feq1, e_fne1, e_feq2, e_fne2, e_seq, e_sne, e_ta1, e_ta2, Nat.zero_add, Nat.add_zero, Bool.not_true, Bool.not_false]
  rw [wrap64_id (by omega) (by omega)]
  refine decimal_ok ⟨by omega, by omega⟩ fun w1 d hk1 hd => ?_
  have e1 : (⟨#[111, 112, 99, 111, 100, 101, 32]⟩ : ByteArray).size = 7 := rfl
  refine ccat (by omega) fun z hz => ?_
  exact hK w1 z hk1
end
theorem nk0 {K : Value → World → Prop} {w : World} {n : Nat} (h : K (P n 0) w) : nck (P n 0) K w := h
/-- the law's own blocks are as they were -/
def Ky (V : Nat → Prop) (w w' : World) : Prop := ∃ S, Kp S w w' ∧ ∀ c, V c → ¬ S c
theorem encIss_by' (l : List Iss) : By (encIss l) := fun x hx => by
  unfold encIss at hx
  obtain ⟨y, _, hl⟩ := List.mem_flatMap.1 hx
  exact ((uI_by _).app (uI_by _)) x hl
theorem encRs_by' (l : List Rec) : By (encRs l) := fun x hx => by
  unfold encRs at hx
  obtain ⟨y, _, hl⟩ := List.mem_flatMap.1 hx
  exact encRec_by y x hl
theorem by_app {a b : List Int} : By (a ++ b) ↔ By a ∧ By b :=
  ⟨fun h => ⟨fun x hx => h x (List.mem_append_left _ hx), fun x hx => h x (List.mem_append_right _ hx)⟩, fun h => h.1.app h.2⟩
theorem by_ite {c : Prop} [Decidable c] {a b : List Int} : By (if c then a else b) ↔ (c → By a) ∧ (¬ c → By b) := by
  split
  · exact ⟨fun h => ⟨fun _ => h, fun n => absurd ‹c› n⟩, fun h => h.1 ‹c›⟩
  · exact ⟨fun h => ⟨fun n => absurd n ‹¬ c›, fun _ => h⟩, fun h => h.2 ‹¬ c›⟩
section
theorem eR_by' {p : Rp} (h : RpN p) : By (eR p) := by
  unfold eR
  split
  · refine By.app (By.cons ⟨by decide, by decide⟩ (By.cons h.op By.nil)) ?_
    unfold eB
    simp only [by_app, by_ite, uI_by, encIss_by', encRs_by', encRec_by, encIds_by, By.nil, and_self, implies_true]
  · exact By.cons h.code By.nil
end
theorem nrm_co {p : Rp} (h : p.code = 0) : nrm p = nrmB p ∧ (nrmB p).code = 0 ∧ (nrmB p).op = p.op := by
  refine ⟨by unfold nrm; rw [if_pos h], ?_, ?_⟩
  · unfold nrmB
    repeat' first | rfl | refine ite_p (P := fun q : Rp => q.code = 0) ?_ ?_
  · unfold nrmB
    repeat' first | rfl | refine ite_p (P := fun q : Rp => q.op = p.op) ?_ ?_
section
variable {V V' V1 S F : Nat → Prop} {W w w' w1 w2 : World} {fv v : Value} {ans : Rq → List Int} {Z : (Nat → Prop) → World → Prop} {q : Rq} {p : Rp} {K : Value → World → Prop} {c : Nat} {σ : Sg}
theorem Ky.refl : Ky V w w := ⟨fun _ => False, Kp.refl _ _, fun _ _ q => q⟩
theorem Ky.of (h : Kp S w w') (hS : ∀ c, V c → ¬ S c) : Ky V w w' := ⟨S, h, hS⟩
theorem Ky.trans (h1 : Ky V w w1) (h2 : Ky V1 w1 w2) (h : ∀ c, V c → V1 c) : Ky V w w2 := by
  obtain ⟨S1, k1, q1⟩ := h1
  obtain ⟨S2, k2, q2⟩ := h2
  exact ⟨fun b => S1 b ∨ S2 b, (k1.mono fun b _ q => .inl q).trans (k2.mono fun b _ q => .inr q), fun c hc q => q.elim (q1 c hc) (q2 c (h c hc))⟩
theorem Ky.size (h : Ky V w w') : w.heap.size ≤ w'.heap.size := by obtain ⟨S, k, _⟩ := h; exact k.size
theorem Ky.row {b : Nat} {T : TypeId} {l : List Value} (h : Ky V w w') (hb : V b) (r : Row w b T l) : Row w' b T l := by obtain ⟨S, k, q⟩ := h; exact k.row r (q b hb)
theorem Ky.ar {α : Type} {f : α → List Value} {k : Nat} {xs : List α} (h : Ky V w w') (hF : ∀ b, F b → V b) (ha : Ar f k F w v xs) : Ar f k F w' v xs := by obtain ⟨S, kk, q⟩ := h; exact ha.kp kk fun b hb => q b (hF b hb)
set_option maxHeartbeats 2000000 in
/-- the client asks -/
theorem call_ok (s : Srv W fv ans Z) (z : Z V w) (hq : QOk q) (rc : Row w c 97 [fv]) (hVc : V c) (hp : ans q = eR p) (hN : RpN p) (hX : RpX p) (hcn : p.cnt.length = 10) (h0 : p.code = 0) (ho : p.op = q.op)
    (hK : ∀ w' l V', Z V' w' → (∀ c, V c → V' c) → Rv (fun b => V' b ∧ w.heap.size ≤ b) w' l (nrmB p) → Ky V w w' → K (.tuple #[.agg l.toArray, .nilIface]) w') : cl Tryz.prog 50 #[P c 0, .agg (q.cells nilS).toArray] K w := by
  have hlt := s.lt z
  have hclt := hlt c hVc
  have hlegs : q.legs = [] := by obtain ⟨op, id, at', sl, li, rfl, _⟩ := hq.ex; rfl
  have hqo : 0 ≤ q.op ∧ q.op ≤ 255 := hq.rqn.op
  apply c50
  unfold s50_p5
  refine nw_r fun w1 r1 hk1 hz1 => ?_
  replace r1 : Row w1 w.heap.size 49 (q.cells nilS) := r1
  refine nw_r fun w2 r2 hk2 hz2 => ?_
  replace r2 : Row w2 w1.heap.size 46 (rp0.cells nilS nilS nilS) := r2
  refine fdp (ld1_r (v := U8 q.op) (hk2.row' r1) rfl ?_)
  refine copName_ok hqo fun w3 sn hk3 => ?_
  refine ldn_r (hk3.row' (hk2.row' r1)) (show 0 + 8 ≤ 8 by decide) ?_
  refine encReq_ok (F := Emp) (show Qv Emp w3 (q.cells nilS) q from ⟨nilS, rfl, by rw [hlegs]; exact Ar.nil⟩) hq.rqn ⟨fun e => (by rw [hq.xpr] at e; cases e), fun _ w4 v4 b4 sl4 hb4 hk4 => ?_⟩
  simp only [ex2_0, ex2_1, Bool.not_true, e_not, e_iff]
  have k02 : Kp Emp w w2 := hk1.trans hk2
  have k24 : Kp Emp w2 w4 := hk3.trans hk4
  have k04 : Kp Emp w w4 := k02.trans k24
  have s24 := k24.size
  have ctl := hclt
  -- the transport
  refine nk0 (fdp (ld1_r (v := fv) (k04.row' rc) rfl ?_))
  have z4 := s.gro (S := Emp) z k04 fun b q => q.elim
  have el : (enc q).length ≤ 1000000 := by
    have := enc_len (q := q) (by rw [hlegs]; simp)
    omega
  refine s.call z4 hq (sl4.arb (by omega)) (fun b (e : b = _) => by rw [e]; exact hb4.2) fun w5 v5 b5 S z5 sl5 hb5 hk5 hS5 hW5 => ?_
  have s5 := hk5.size
  have s04 := k04.size
  have v1 : Nb w w4 w.heap.size := ⟨Nat.le_refl _, by omega⟩
  have v2 : Nb w w4 w1.heap.size := ⟨by omega, by omega⟩
  have r1_5 : Row w5 w.heap.size 49 (q.cells nilS) := hk5.row (k24.row' (hk2.row' r1)) (hS5 _ (.inr v1))
  have r2_5 : Row w5 w1.heap.size 46 (rp0.cells nilS nilS nilS) := hk5.row (k24.row' r2) (hS5 _ (.inr v2))
  rw [hp] at sl5
  have b5lt := sl5.lt
  have hplen : (eR p).length ≤ 1000000000 := by rw [← hp]; exact s.len q
  refine decR_ok (sl5.arb (by omega)) (eR_by' hN) (fun b (e : b = b5) => by omega) hplen fun w6 l6 hk6 hv6 => ?_
  rw [decR_eR hN hX hcn] at hv6 ⊢
  obtain ⟨e1, e2, e3⟩ := nrm_co h0
  have hv6 : Rv (Nb w5 w6) w6 l6 (nrmB p) := by rw [← e1]; exact hv6
  have s6 := hk6.size
  simp only [ex2_0, ex2_1]
  refine nw_r fun w7 r7 hk7 hz7 => ?_
  have hl34 := hv6.len
  refine stn_r (cs := l6) r7 hl34 (show 0 + 34 ≤ 34 by decide) hv6.sc fun w8 r8 hk8 hz8 => ?_
  rw [List.take_zero, List.nil_append, Nat.zero_add, List.drop_of_length_le (by decide), List.append_nil] at r8
  have k68 : Kp Emp w6 w8 := hk7.then hk8 fun b hb (q : b = _) => by omega
  have k58 : Kp Emp w5 w8 := hk6.trans k68
  simp only [Bool.not_true, e_not, e_iff]
  obtain ⟨iv, rv, wv, el6, hi6, hr6, hw6, hc6⟩ := id hv6
  have c0 : l6[0]? = some (I 0) := by
    rw [el6]
    show some (I (nrmB p).code) = _
    rw [e2]
  have c1 : l6[1]? = some (U8 p.op) := by
    rw [el6]
    show some (U8 (nrmB p).op) = _
    rw [e3]
  refine fdp (ld1_r (v := I 0) r8 c0 ?_)
  have en0 : ((0 : Int) != 0) = false := rfl
  simp only [e_neq, en0]
  unfold s50_p4
  refine sw_f ?_
  unfold s50_p1
  refine fdp (ld1_r (v := U8 p.op) r8 c1 ?_)
  refine fdp (ld1_r (v := U8 q.op) (k58.row' r1_5) rfl ?_)
  have en1 : (p.op != q.op) = false := by rw [ho]; simp
  simp only [e_neq, en1, e_iff]
  refine ldn_r r8 (by omega) ?_
  rw [List.drop_zero, List.take_of_length_le (by omega)]
  refine stn_r (cs := l6) (k58.row' r2_5) hl34 (show 0 + 34 ≤ 34 by decide) hv6.sc fun w9 r9 hk9 hz9 => ?_
  rw [List.take_zero, List.nil_append, Nat.zero_add, List.drop_of_length_le (by decide), List.append_nil] at r9
  refine ldn_r r9 (by omega) ?_
  rw [List.drop_zero, List.take_of_length_le (by omega)]
  have z8 := s.gro (S := Emp) z5 k58 fun b q => q.elim
  have z9 := s.gro z8 hk9 fun b (q : b = _) => .inl (.inl (.inr (q ▸ v2)))
  have s68 := k68.size
  refine hK w9 l6 _ z9 (fun c hc => .inl (.inl (.inl (.inl hc)))) ((hv6.kp k68 fun b _ q => q).kp hk9 (fun b hb (q : b = _) => by have := hb.1; omega) |>.mono fun b hb => ⟨.inl (.inr ⟨hb.1, by have := hb.2; omega⟩), by have := hb.1; omega⟩) ?_
  have y1 : Ky V w w4 := Ky.of k04 fun _ _ q => q
  have y2 : Ky V w4 w5 := Ky.of hk5 fun c hc => hS5 c (.inl hc)
  have y3 : Ky V w5 w8 := Ky.of k58 fun _ _ q => q
  have y4 : Ky V w8 w9 := Ky.of hk9 fun c hc (q : c = _) => by have := hlt c hc; omega
  exact ((y1.trans y2 fun _ q => q).trans y3 fun _ q => q).trans y4 fun _ q => q
end
end Go.Proofs.Qxb6500896aGreatDoor
