import Derived.Test.Qxb6500897aP34
namespace Go.Proofs.Qxb6500897a
open Go.Sh Go.RowKit
set_option linter.unusedVariables false
set_option linter.unusedSimpArgs false

section
variable {W w0 wr w w1 : World} {d tb : Nat} {now : Int} {ts : List Tab} {L : List Ent} {K : Value → World → Prop} {B1 : List Value → World → Prop} {t2 t3 t17 t18 : Value}
  {fob : Option Nat} {fv : Value} {sob : Option Nat} {sv : Value} {fs : List Int} {its : List It} {lo : Nat}

theorem VP.kp1 (h : VP w fob fv sob sv fs its lo) {b : Nat} {t : TypeId} {l : List Value} (hk : Kp (fun k => k = b) w w1) (hr : Row w b t l) (h1 : t ≠ 3) (h2 : t ≠ 67) (h3 : t ≠ 61) : VP w1 fob fv sob sv fs its lo :=
  h.kpS hk fun k e => .inr ⟨t, l, by subst e; exact hr, h1, h2, h3⟩

theorem VP.addF (h : VP w fob fv sob sv fs its lo) {fob' : Option Nat} {fv' : Value} {x : Int} (hl : lo ≤ w.heap.size) (hs : Sl i1 1 w1 3 fob' fv' (fs ++ [x])) (hk : Kp (fun b => fob = some b) w w1) (ho : fob' = fob ∨ ∃ b, fob' = some b ∧ w.heap.size ≤ b) :
    VP w1 fob' fv' sob sv (fs ++ [x]) its lo := by
  refine ⟨hs, h.s.kp hk fun b hb q => ?_, fun y hy => (h.r y hy).kp hk fun b hb q => ?_, fun b hb => ?_, h.sl, h.rl, h.nd⟩
  · obtain ⟨l, hr⟩ := h.s.row hb
    exact h.f.ne hr (by decide) q
  · obtain ⟨l, hr⟩ := (h.r y hy).row hb
    exact h.f.ne hr (by decide) q
  · rcases ho with e | ⟨c, e, hc⟩
    · exact h.fl b (e ▸ hb)
    · rw [e] at hb
      have : c = b := by simpa using hb
      omega

theorem VP.addS (h : VP w fob fv sob sv fs its lo) {sob' : Option Nat} {sv' : Value} {x : It} (hl : lo ≤ w.heap.size) (hx : Sl Ctr.cells 4 w 61 (some x.rb) x.rv x.cs) (hxl : lo ≤ x.rb) (hxn : ∀ y ∈ its, y.rb ≠ x.rb)
    (hs : Sl it1 1 w1 67 sob' sv' (its ++ [x])) (hk : Kp (fun b => sob = some b) w w1) (ho : sob' = sob ∨ ∃ b, sob' = some b ∧ w.heap.size ≤ b) :
    VP w1 fob fv sob' sv' fs (its ++ [x]) lo := by
  refine ⟨h.f.kp hk fun b hb q => ?_, hs, fun y hy => ?_, h.fl, fun b hb => ?_, fun y hy => ?_, ?_⟩
  · obtain ⟨l, hr⟩ := h.f.row hb
    exact h.s.ne hr (by decide) q
  · have hy' : Sl Ctr.cells 4 w 61 (some y.rb) y.rv y.cs := by
      rcases List.mem_append.1 hy with q | q
      · exact h.r y q
      · rw [List.mem_singleton.1 q]; exact hx
    refine hy'.kp hk fun b hb q => ?_
    obtain ⟨l, hr⟩ := hy'.row hb
    exact h.s.ne hr (by decide) q
  · rcases ho with e | ⟨c, e, hc⟩
    · exact h.sl b (e ▸ hb)
    · rw [e] at hb
      have : c = b := by simpa using hb
      omega
  · rcases List.mem_append.1 hy with q | q
    · exact h.rl y q
    · rw [List.mem_singleton.1 q]; exact hxl
  · rw [List.map_append, List.nodup_append]
    refine ⟨h.nd, by simp, ?_⟩
    intro a ha b hb
    obtain ⟨y, hy, rfl⟩ := List.mem_map.1 ha
    have : b = x.rb := by simpa using hb
    rw [this]
    exact hxn y hy

/-- the slots of one attraction -/
theorem look_row {a rb : Nat} {rv : Value} (h : St W wr d tb now ts L) (ha : a < 4) (hw : Kp (fun _ => False) wr w) (hs : Sl Ctr.cells 4 w 61 (some rb) rv []) (hrb : wr.heap.size ≤ rb)
    (hK : ∀ w' rb' rv', Kp (fun _ => False) wr w' → Sl Ctr.cells 4 w' 61 (some rb') rv' (rowOf now L a) → wr.heap.size ≤ rb' → s20_p3 K B1 (ptr d) t2 t3 (I (fst1 now a)) rv' t17 t18 w') :
    s20_p12 K B1 (ptr d) t2 t3 (I a) (I (fst1 now a)) (I (now + 5 + (dw a - 1))) rv (I (fst1 now a)) t17 t18 w := by
  have hdw : (pa a).dwell = dw a := rfl
  have hb := pa_bd a
  have n0 := h.good.inv.n0
  have n1 := h.good.inv.n1
  have hrl : (rlen a : Int) = 6 + 2 * (dw a - 1) := by unfold rlen; omega
  have hf1 : fst1 now a = now - (dw a - 1) := rfl
  refine ⟨fun m l w => ∃ (k rb : Nat) (rv : Value), k ≤ rlen a ∧ m = rlen a - k ∧ l = [ptr d, t2, t3, I a, I (fst1 now a), I (now + 5 + (dw a - 1)), rv, I (fst1 now a + (k : Nat)), t17, t18] ∧
      Kp (fun _ => False) wr w ∧ Sl Ctr.cells 4 w 61 (some rb) rv (rowTo now L a k) ∧ wr.heap.size ≤ rb,
    rlen a, ⟨0, rb, rv, by omega, by omega, by simp, hw, hs, hrb⟩, ?_⟩
  rintro m l w ⟨k, rb, rv, hk, hm, rfl, hw, hs, hrb⟩
  rw [s20_p12_Fe]
  unfold s20_p11
  simp only [e_fd, e_nck, e_pkt, e_pkf, e_gdtt, e_gdtf, e_gdft, e_gdff, e_ift, e_iff, e_not, e_ln, e_lnT, e_cp, e_cvi, e_ex20, e_ex21, e_ex30, e_ex31, e_ex32, e_add, e_sub, e_mul, e_quo, e_rem, e_and, e_or, e_xor, e_shl, e_shr, e_eql, e_neq, e_lss, e_leq, e_gtr, e_geq, e_beq, e_bne, e_peq1, e_peq2, e_pne1, e_pne2, e_zeq1, e_zeq2, e_zne1, e_zne2, e_feq1, e_fne1, e_feq2, e_fne2, e_seq, e_sne, e_ta1, e_ta2, Nat.zero_add, Nat.add_zero, Bool.not_true, Bool.not_false]
  by_cases hlt : k < rlen a
  · have hle : fst1 now a + (k : Nat) ≤ now + 5 + (dw a - 1) := by omega
    simp only [hle, decide_true, e_fd, e_nck, e_pkt, e_pkf, e_gdtt, e_gdtf, e_gdft, e_gdff, e_ift, e_iff, e_not, e_ln, e_lnT, e_cp, e_cvi, e_ex20, e_ex21, e_ex30, e_ex31, e_ex32, e_add, e_sub, e_mul, e_quo, e_rem, e_and, e_or, e_xor, e_shl, e_shr, e_eql, e_neq, e_lss, e_leq, e_gtr, e_geq, e_beq, e_bne, e_peq1, e_peq2, e_pne1, e_pne2, e_zeq1, e_zeq2, e_zne1, e_zne2, e_feq1, e_fne1, e_feq2, e_fne2, e_seq, e_sne, e_ta1, e_ta2, Nat.zero_add, Nat.add_zero, Bool.not_true, Bool.not_false]
    unfold s20_p10
    have hwz := hw.size
    refine nw_r fun w1 r1 hb1 hz1 => ?_
    have hk1 : Kp (fun _ => False) wr w1 := hw.trans hb1
    refine (h.kp hk1).occ ha (by omega) hle fun w2 hk2 => ?_
    have r2 := hk2.row' r1
    simp only [e_fd, e_nck, e_pkt, e_pkf, e_gdtt, e_gdtf, e_gdft, e_gdff, e_ift, e_iff, e_not, e_ln, e_lnT, e_cp, e_cvi, e_ex20, e_ex21, e_ex30, e_ex31, e_ex32, e_add, e_sub, e_mul, e_quo, e_rem, e_and, e_or, e_xor, e_shl, e_shr, e_eql, e_neq, e_lss, e_leq, e_gtr, e_geq, e_beq, e_bne, e_peq1, e_peq2, e_pne1, e_pne2, e_zeq1, e_zeq2, e_zne1, e_zne2, e_feq1, e_fne1, e_feq2, e_fne2, e_seq, e_sne, e_ta1, e_ta2, Nat.zero_add, Nat.add_zero, Bool.not_true, Bool.not_false]
    refine st1_r r2 (Nat.le_of_ble_eq_true rfl) rfl fun w3 r3 hb3 hz3 => ?_
    have hk3 : Kp (fun _ => False) wr w3 := (hk1.trans hk2).then hb3 (by intro x hx (e : x = _); omega)
    have hWr := h.bel.size
    refine look_cls (w0 := wr) (cb := w.heap.size) (h.kp hk3) ha (by omega) hle r3 (by intro x hx; omega) (by omega) fun w4 hk4 r4 => ?_
    have hk4' : Kp (fun _ => False) wr w4 := hk3.then hk4 (by intro x hx (e : x = _); omega)
    unfold s20_p5
    refine ldn_r r4 (Nat.le_of_ble_eq_true rfl) ?_
    have hs4 : Sl Ctr.cells 4 w4 61 (some rb) rv (rowTo now L a k) := by
      have hrbl : rb < w.heap.size := by obtain ⟨l, hr⟩ := hs.row rfl; exact hr.lt
      refine ((((hs.kp' hb1).kp' hk2).kp hb3 ?_).kp hk4 ?_)
      · intro b hb (e : b = _)
        have : rb = b := by simpa using hb
        omega
      · intro b hb (e : b = _)
        have : rb = b := by simpa using hb
        omega
    refine hs4.app Ctr.cells_length rfl (ctrOf L a (fst1 now a + (k : Nat))) rfl (by rw [rowTo_length]; omega) (by rw [rowTo_length]; omega) rfl fun w5 rv' ob' hs5 hk5 ho => ?_
    unfold s20_p4
    simp only [e_fd, e_nck, e_pkt, e_pkf, e_gdtt, e_gdtf, e_gdft, e_gdff, e_ift, e_iff, e_not, e_ln, e_lnT, e_cp, e_cvi, e_ex20, e_ex21, e_ex30, e_ex31, e_ex32, e_add, e_sub, e_mul, e_quo, e_rem, e_and, e_or, e_xor, e_shl, e_shr, e_eql, e_neq, e_lss, e_leq, e_gtr, e_geq, e_beq, e_bne, e_peq1, e_peq2, e_pne1, e_pne2, e_zeq1, e_zeq2, e_zne1, e_zne2, e_feq1, e_fne1, e_feq2, e_fne2, e_seq, e_sne, e_ta1, e_ta2, Nat.zero_add, Nat.add_zero, Bool.not_true, Bool.not_false]
    rw [wrap64_id (by omega) (by omega)]
    have hw4 := hk4'.size
    obtain ⟨rb', hrb', hrl'⟩ : ∃ rb', ob' = some rb' ∧ wr.heap.size ≤ rb' := by
      rcases ho with e | ⟨c, e, hc⟩
      · exact ⟨rb, e, hrb⟩
      · exact ⟨c, e, by omega⟩
    subst hrb'
    rw [← rowTo_succ] at hs5
    refine ⟨rlen a - (k + 1), by omega, k + 1, rb', rv', by omega, rfl, ?_, ?_, hs5, hrl'⟩
    · have e : fst1 now a + ((k + 1 : Nat) : Int) = fst1 now a + (k : Nat) + 1 := by omega
      rw [e]
    · exact hk4'.then hk5 (by intro x hx (e : some rb = some x); have : rb = x := Option.some.inj e; omega)
  · have hle : ¬ (fst1 now a + (k : Nat) ≤ now + 5 + (dw a - 1)) := by omega
    simp only [hle, decide_false, e_fd, e_nck, e_pkt, e_pkf, e_gdtt, e_gdtf, e_gdft, e_gdff, e_ift, e_iff, e_not, e_ln, e_lnT, e_cp, e_cvi, e_ex20, e_ex21, e_ex30, e_ex31, e_ex32, e_add, e_sub, e_mul, e_quo, e_rem, e_and, e_or, e_xor, e_shl, e_shr, e_eql, e_neq, e_lss, e_leq, e_gtr, e_geq, e_beq, e_bne, e_peq1, e_peq2, e_pne1, e_pne2, e_zeq1, e_zeq2, e_zne1, e_zne2, e_feq1, e_fne1, e_feq2, e_fne2, e_seq, e_sne, e_ta1, e_ta2, Nat.zero_add, Nat.add_zero, Bool.not_true, Bool.not_false]
    have : k = rlen a := by omega
    subst this
    exact hK w rb rv hw hs hrb
end

structure Vw where
  now : Int
  first : List Int
  slots : List (List Ctr)
def vwOf (now : Int) (L : List Ent) : Vw := ⟨now, (List.range 4).map (fst1 now), (List.range 4).map (rowOf now L)⟩
def ViewAt (w : World) (val : Value) (vw : Vw) (lo : Nat) : Prop :=
  ∃ fob fv sob sv its, val = .agg #[.bool true, I vw.now, fv, sv] ∧ VP w fob fv sob sv vw.first its lo ∧ vw.slots = its.map (·.cs)

set_option maxRecDepth 100000 in
theorem look_ok {W w0 : World} {d tb : Nat} {now : Int} {ts : List Tab} {L : List Ent} {K : Value → World → Prop} (h : St W w0 d tb now ts L)
    (hK : ∀ w' val, ViewAt w' val (vwOf now L) w0.heap.size → Kp (fun _ => False) w0 w' → K val w') : cl Try.prog 20 #[ptr d] K w0 := by
  apply c20
  unfold s20_p17
  refine nw_r fun w1 r1 hb1 hz1 => ?_
  refine now_ok (hb1.row' h.tabs.top) ?_
  apply bdq_r rfl
  refine nw_r fun w2 r2 hb2 hz2 => ?_
  refine stn_r r2 rfl (Nat.le_of_ble_eq_true rfl) rfl fun w3 r3 hb3 hz3 => ?_
  replace r3 : Row w3 w1.heap.size 43 [.bool true, I now, .slice none 0 0, .slice none 0 0] := r3
  have k3 : Kp (fun _ => False) w0 w3 := (hb1.trans hb2).then hb3 (by intro x hx (e : x = _); have := hb1.size; omega)
  have r13 := hb3.row (hb2.row' r1) (by intro (e : w0.heap.size = _); omega)
  refine park_ok fun w4 pb hpb rp hb4 => ?_
  refine fi_r (o := 2) (by kernel_rfl) rfl ?_
  show s20_p16 K (ptr d) (ptr w0.heap.size) (ptr w1.heap.size) (I 4) (I 0) w4
  generalize hb3n : w1.heap.size = b3 at *
  generalize hb2n : w0.heap.size = b2 at *
  have hV0 : VP w4 none (.slice none 0 0) none (.slice none 0 0) [] [] b2 := ⟨⟨rfl, rfl⟩, ⟨rfl, rfl⟩, by simp, by simp, by simp, by simp, by simp⟩
  refine ⟨fun m l w => ∃ (a : Nat) (fob : Option Nat) (fv : Value) (sob : Option Nat) (sv : Value) (its : List It), a ≤ 4 ∧ m = 4 - a ∧ l = [ptr d, ptr b2, ptr b3, I 4, I a] ∧ Kp (fun _ => False) w0 w ∧
      Row w b2 43 [.bool false, I 0, .slice none 0 0, .slice none 0 0] ∧ Row w b3 43 [.bool true, I now, fv, sv] ∧ VP w fob fv sob sv ((List.range a).map (fst1 now)) its b2 ∧ its.map (·.cs) = (List.range a).map (rowOf now L),
    4, ⟨0, none, _, none, _, [], by omega, by omega, rfl, k3.trans hb4, hb4.row' r13, hb4.row' r3, hV0, rfl⟩, ?_⟩
  rintro m l w ⟨a, fob, fv, sob, sv, its, ha, hm, rfl, hw, rb2, rb3, hV, hcs⟩
  rw [s20_p16_Fe]
  unfold s20_p15
  simp only [e_fd, e_nck, e_pkt, e_pkf, e_gdtt, e_gdtf, e_gdft, e_gdff, e_ift, e_iff, e_not, e_ln, e_lnT, e_cp, e_cvi, e_ex20, e_ex21, e_ex30, e_ex31, e_ex32, e_add, e_sub, e_mul, e_quo, e_rem, e_and, e_or, e_xor, e_shl, e_shr, e_eql, e_neq, e_lss, e_leq, e_gtr, e_geq, e_beq, e_bne, e_peq1, e_peq2, e_pne1, e_pne2, e_zeq1, e_zeq2, e_zne1, e_zne2, e_feq1, e_fne1, e_feq2, e_fne2, e_seq, e_sne, e_ta1, e_ta2, Nat.zero_add, Nat.add_zero, Bool.not_true, Bool.not_false]
  have hwz := hw.size
  by_cases hlt : a < 4
  · have hlt' : (a : Int) < 4 := by omega
    simp only [hlt', decide_true, e_fd, e_nck, e_pkt, e_pkf, e_gdtt, e_gdtf, e_gdft, e_gdff, e_ift, e_iff, e_not, e_ln, e_lnT, e_cp, e_cvi, e_ex20, e_ex21, e_ex30, e_ex31, e_ex32, e_add, e_sub, e_mul, e_quo, e_rem, e_and, e_or, e_xor, e_shl, e_shr, e_eql, e_neq, e_lss, e_leq, e_gtr, e_geq, e_beq, e_bne, e_peq1, e_peq2, e_pne1, e_pne2, e_zeq1, e_zeq2, e_zne1, e_zne2, e_feq1, e_fne1, e_feq2, e_fne2, e_seq, e_sne, e_ta1, e_ta2, Nat.zero_add, Nat.add_zero, Bool.not_true, Bool.not_false]
    unfold s20_p14
    refine (h.kp hw).win hlt fun w5 hk5 => ?_
    simp only [e_fd, e_nck, e_pkt, e_pkf, e_gdtt, e_gdtf, e_gdft, e_gdff, e_ift, e_iff, e_not, e_ln, e_lnT, e_cp, e_cvi, e_ex20, e_ex21, e_ex30, e_ex31, e_ex32, e_add, e_sub, e_mul, e_quo, e_rem, e_and, e_or, e_xor, e_shl, e_shr, e_eql, e_neq, e_lss, e_leq, e_gtr, e_geq, e_beq, e_bne, e_peq1, e_peq2, e_pne1, e_pne2, e_zeq1, e_zeq2, e_zne1, e_zne2, e_feq1, e_fne1, e_feq2, e_fne2, e_seq, e_sne, e_ta1, e_ta2, Nat.zero_add, Nat.add_zero, Bool.not_true, Bool.not_false]
    unfold s20_p13
    have hw5 := hw.trans hk5
    refine Sl.empty (f := Ctr.cells) (k := 4) fun w6 hs6 hk6 hz6 => ?_
    refine look_row (wr := w5) (h.kp hw5) hlt hk6 hs6 (Nat.le_refl _) fun w7 rb rv hk7 hs7 hrb => ?_
    have hw7 := hw5.trans hk7
    have hV7 := (hV.kp hk5).kp hk7
    have r37 := hk7.row' (hk5.row' rb3)
    have r27 := hk7.row' (hk5.row' rb2)
    have hz5 := hk5.size
    have hz7 := hk7.size
    unfold s20_p3
    unfold ptr
    simp only [e_fd, e_nck, e_pkt, e_pkf, e_gdtt, e_gdtf, e_gdft, e_gdff, e_ift, e_iff, e_not, e_ln, e_lnT, e_cp, e_cvi, e_ex20, e_ex21, e_ex30, e_ex31, e_ex32, e_add, e_sub, e_mul, e_quo, e_rem, e_and, e_or, e_xor, e_shl, e_shr, e_eql, e_neq, e_lss, e_leq, e_gtr, e_geq, e_beq, e_bne, e_peq1, e_peq2, e_pne1, e_pne2, e_zeq1, e_zeq2, e_zne1, e_zne2, e_feq1, e_fne1, e_feq2, e_fne2, e_seq, e_sne, e_ta1, e_ta2, Nat.zero_add, Nat.add_zero, Bool.not_true, Bool.not_false]
    refine ld1_r r37 rfl ?_
    refine hV7.f.app i1_length rfl (fst1 now a) rfl (by simp; omega) (by simp; omega) rfl fun w8 fv' fob' hs8 hk8 ho8 => ?_
    have hV8 := hV7.addF (by omega) hs8 hk8 ho8
    have r38 := hk8.row r37 (hV7.f.ne r37 (by decide))
    have r28 := hk8.row r27 (hV7.f.ne r27 (by decide))
    refine st1_r r38 (Nat.le_of_ble_eq_true rfl) (by
      cases fob' with
      | none => rw [hs8.1]; rfl
      | some q => obtain ⟨_, _, e, _⟩ := hs8; rw [e]; rfl) fun w9 r39 hk9 hz9 => ?_
    replace r39 : Row w9 b3 43 [.bool true, I now, fv', sv] := r39
    have hV9 : VP w9 fob' fv' sob sv _ its b2 := hV8.kp1 hk9 r38 (by decide) (by decide) (by decide)
    have r29 := hk9.row r28 (by intro (e : b2 = b3); omega)
    have hrow9 : Sl Ctr.cells 4 w9 61 (some rb) rv (rowOf now L a) := by
      refine ((hs7.kp hk8 ?_).kp hk9 ?_)
      · intro b hb q
        obtain ⟨l, hr⟩ := hs7.row hb
        exact hV7.f.ne hr (by decide) q
      · intro b hb (e : b = b3)
        have : rb = b := by simpa using hb
        have := rb3.lt
        omega
    refine ld1_r r39 rfl ?_
    have hsc : scal rv = true := by obtain ⟨_, _, e, _⟩ := hs7; rw [e]; rfl
    have hits : its.length = a := by have := congrArg List.length hcs; simpa using this
    have hrvc : ∃ q n c, rv = .slice q n c := by obtain ⟨_, _, e, _⟩ := hs7; exact ⟨_, _, _, e⟩
    refine hV9.s.app it1_length rfl ⟨rb, rv, rowOf now L a⟩ (by simp [it1, hsc]) (by omega) (by omega) (by obtain ⟨q, n, c, e⟩ := hrvc; subst e; rfl) fun w10 sv' sob' hs10 hk10 ho10 => ?_
    have hz8 := hk8.size
    have hz9' := hk9.size
    have hV10 := hV9.addS (by omega) hrow9 (by show b2 ≤ rb; omega) (by
      intro y hy
      have hyl : y.rb < w5.heap.size := by obtain ⟨l, hr⟩ := ((hV.kp hk5).r y hy).row rfl; exact hr.lt
      show y.rb ≠ rb
      omega) hs10 hk10 ho10
    have r310 := hk10.row r39 (hV9.s.ne r39 (by decide))
    have r210 := hk10.row r29 (hV9.s.ne r29 (by decide))
    refine st1_r r310 (Nat.le_of_ble_eq_true rfl) (by
      cases sob' with
      | none => rw [hs10.1]; rfl
      | some q => obtain ⟨_, _, e, _⟩ := hs10; rw [e]; rfl) fun w11 r311 hk11 hz11 => ?_
    replace r311 : Row w11 b3 43 [.bool true, I now, fv', sv'] := r311
    unfold s20_p2
    simp only [e_fd, e_nck, e_pkt, e_pkf, e_gdtt, e_gdtf, e_gdft, e_gdff, e_ift, e_iff, e_not, e_ln, e_lnT, e_cp, e_cvi, e_ex20, e_ex21, e_ex30, e_ex31, e_ex32, e_add, e_sub, e_mul, e_quo, e_rem, e_and, e_or, e_xor, e_shl, e_shr, e_eql, e_neq, e_lss, e_leq, e_gtr, e_geq, e_beq, e_bne, e_peq1, e_peq2, e_pne1, e_pne2, e_zeq1, e_zeq2, e_zne1, e_zne2, e_feq1, e_fne1, e_feq2, e_fne2, e_seq, e_sne, e_ta1, e_ta2, Nat.zero_add, Nat.add_zero, Bool.not_true, Bool.not_false]
    rw [wrap64_id (by omega) (by omega)]
    have hk11' : Kp (fun _ => False) w0 w11 := by
      refine (((hw7.then hk8 ?_).then hk9 ?_).then hk10 ?_).then hk11 ?_
      · intro x hx e; have := hV.fl x e; omega
      · intro x hx (e : x = b3); omega
      · intro x hx e; have := hV.sl x e; omega
      · intro x hx (e : x = b3); omega
    refine ⟨4 - (a + 1), by omega, a + 1, fob', fv', sob', sv', its ++ [⟨rb, rv, rowOf now L a⟩], by omega, rfl, by simp [ptr], hk11', hk11.row r210 (by intro (e : b2 = b3); omega), r311, ?_, ?_⟩
    · rw [List.range_succ, List.map_append]
      exact hV10.kp1 hk11 r310 (by decide) (by decide) (by decide)
    · rw [List.range_succ, List.map_append, List.map_append, hcs]; rfl
  · have hlt' : ¬ (a : Int) < 4 := by omega
    simp only [hlt', decide_false, e_fd, e_nck, e_pkt, e_pkf, e_gdtt, e_gdtf, e_gdft, e_gdff, e_ift, e_iff, e_not, e_ln, e_lnT, e_cp, e_cvi, e_ex20, e_ex21, e_ex30, e_ex31, e_ex32, e_add, e_sub, e_mul, e_quo, e_rem, e_and, e_or, e_xor, e_shl, e_shr, e_eql, e_neq, e_lss, e_leq, e_gtr, e_geq, e_beq, e_bne, e_peq1, e_peq2, e_pne1, e_pne2, e_zeq1, e_zeq2, e_zne1, e_zne2, e_feq1, e_fne1, e_feq2, e_fne2, e_seq, e_sne, e_ta1, e_ta2, Nat.zero_add, Nat.add_zero, Bool.not_true, Bool.not_false]
    have : a = 4 := by omega
    subst this
    unfold s20_p1 ptr
    refine ldn_r rb3 (Nat.le_of_ble_eq_true rfl) ?_
    have hsf : scal fv = true := by
      cases fob with
      | none => have := hV.f; rw [this.1]; rfl
      | some q => obtain ⟨_, _, e, _⟩ := hV.f; rw [e]; rfl
    have hss : scal sv = true := by
      cases sob with
      | none => have := hV.s; rw [this.1]; rfl
      | some q => obtain ⟨_, _, e, _⟩ := hV.s; rw [e]; rfl
    refine stn_r (cs := [.bool true, I now, fv, sv]) rb2 rfl (Nat.le_of_ble_eq_true rfl) (by show (true && (true && (scal fv && (scal sv && true)))) = true; rw [hsf, hss]; rfl) fun w5 r5 hk5 hz5 => ?_
    refine ldn_r r5 (Nat.le_of_ble_eq_true rfl) ?_
    refine hK w5 _ ⟨fob, fv, sob, sv, its, rfl, hV.kp1 hk5 rb2 (by decide) (by decide) (by decide), hcs.symm⟩ ?_
    exact hw.then hk5 (by intro x hx (e : x = b2); omega)
end Go.Proofs.Qxb6500897a
