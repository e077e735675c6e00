import Derived.Test.Qxb6500896aGreatM37
namespace Go.Proofs.Qxb6500896aGreat
open Go.Sh Go.RowKit
set_option linter.unusedVariables false
set_option linter.unusedSimpArgs false

section
variable {σ : Sg} {J : Jr} {bs : List Int} {bss : List (List Int)} {k : Int}
theorem bat_one : batS park [bs] σ J = ((hndS park bs σ J).1, (hndS park bs σ J).2.1, [eR (hndS park bs σ J).2.2]) := by
  have h1 : stbL park [bs] σ J = ((stbS park bs σ J).1, (stbS park bs σ J).2.1, [(stbS park bs σ J).2.2]) := rfl
  unfold batS hndS
  rw [h1]
  refine Prod.ext rfl (Prod.ext rfl ?_)
  show (if (setS park (stbS park bs σ J).1 (stbS park bs σ J).2.1).2.2 = 0 then [(stbS park bs σ J).2.2].map eR else [bs].map fun _ => [19]) = [eR (if (setS park (stbS park bs σ J).1 (stbS park bs σ J).2.1).2.2 = 0 then (stbS park bs σ J).2.2 else rf 19)]
  by_cases h : (setS park (stbS park bs σ J).1 (stbS park bs σ J).2.1).2.2 = 0
  · rw [if_pos h, if_pos h]; rfl
  · rw [if_neg h, if_neg h]; rfl
theorem bat_dn (hd : σ.down = true) : (batS park bss σ J).1.down = true ∧ (batS park bss σ J).2.1 = J ∧ (batS park bss σ J).2.2 = bss.map fun _ => [19] := by
  obtain ⟨h1, h2⟩ := stbL_dn (bss := bss) (J := J) hd
  have e : setS park (stbL park bss σ J).1 (stbL park bss σ J).2.1 = ((stbL park bss σ J).1, (stbL park bss σ J).2.1, 19) := by unfold setS; rw [if_pos h1]
  unfold batS
  rw [e]
  exact ⟨h1, h2, by rw [if_neg (show ¬ (19 : Int) = 0 by decide)]⟩
theorem bat_keep (gj : GJ k J) (gs : GS k σ) (hk : k + ((bss.length : Nat) : Int) ≤ 1000000) : GS (k + ((bss.length : Nat) : Int)) (batS park bss σ J).1 ∧ GJ (k + ((bss.length : Nat) : Int)) (batS park bss σ J).2.1 := by
  have b0 := bg gj gs hk bss.length (Nat.le_refl _)
  rw [List.take_length] at b0
  have h1 := b0.t
  have h2 := b0.l
  have h3 := gs.t
  have h4 := gs.l
  exact set_keep b0.gj b0.g b0.s ⟨h1.1, by omega⟩ ⟨h2.1, by omega⟩
end
section
variable {O G F S V V' N Fr : Nat → Prop} {W w w' w0 w1 : World} {r e m b1 b2 e2 rb o8 : Nat} {v v1 v2 qv fv x t4 t5 t6 t9 t10 t25 t26 t27 : Value} {l : List Value} {K : Value → World → Prop} {B1 : List Value → World → Prop} {σ σ' σ2 c : Sg} {J J' J2 : Jr} {bs : List Int} {bss inF outs : List (List Int)} {q : Rq} {X : World → Prop} {k k' : Int} {ob obq obf : Option Nat} {vals qvals fvals : List Value} {op : Op × Value}
/-- the lengths agree -/
theorem len_7 {Y : World → Prop} {A : Prop} (rp : Rpb Fr w rb v outs) (hq : Qu W w ob t9 vals bss) (hn : bss.length ≤ 100000) (hl : outs.length = bss.length) (hY : Y w) : lnS v (fun t63 w => lnS t9 (fun t65 w => boI .neq t63 t65 (fun t66 w => ifb t66 A (Y w)) w) w) w := by
  obtain ⟨rv, s1, s2, s3⟩ := rp
  refine s1.ln ?_
  have qA : Ar one 1 (fun b => ob = some b) w t9 vals := hq.sl.ar one_len (by have := hq.ln; omega) fun b e => e
  refine qA.ln ?_
  simp only [e_neq]
  have en : (((rv.length : Nat) : Int) != ((vals.length : Nat) : Int)) = false := by rw [s2, hq.ln, hl, bne_self_eq_false]
  simp only [en, e_iff]
  exact hY
theorem send_7_dn {wu : Bool} (hup : ∀ {K' : Value → World → Prop}, K' (.bool false) w → cl Tryz.prog 34 #[P r 0] K' w) (rp : Rpb Fr w rb v outs) (ho : ∀ o ∈ outs, o = [19]) (hq : Qu W w ob t9 vals bss) (hn : bss.length ≤ 100000) (hl : outs.length = bss.length)
    (next : s6_p2 K B1 (P r 0) t4 t5 (if wu then t9 else t6) t25 t26 t27 w) : s6_p7 K B1 (P r 0) t4 t5 t6 t9 (.bool wu) v t25 t26 t27 w := by
  unfold s6_p7
  refine len_7 rp hq hn hl ?_
  refine hup ?_
  simp only [e_not, Bool.not_false, e_gdtt, e_pkt]
  cases wu with
  | true => simp only [e_ift]; exact dn_loop hup rp ho (by omega) next
  | false => simp only [e_iff]; exact dn_loop hup rp ho (by omega) next
/-- what follows the replies -/
abbrev NextS (W : World) (r m : Nat) (K : Value → World → Prop) (B1 : List Value → World → Prop) (t25 t26 t27 : Value) (kk : Int) : Prop :=
  ∀ w' J' k' inF' obf' fv' fvals' V', CS W r m k' J' inF' V' w' → (∀ b, obf' = some b → V' b) → Qu W w' obf' fv' fvals' inF' → GJ k' J' → 0 ≤ k' → k' ≤ kk → inF'.length ≤ 100000 → (inF' = [] → fv' = nilS) → s6_p2 K B1 (P r 0) (P m 0) nilS fv' t25 t26 t27 w'
set_option maxHeartbeats 2000000 in
/-- the engine was up -/
theorem send_7_up (z : Zg (YE W r e (batS park bss σ J).1 (batS park bss σ J).2.1) m σ.ms V w) (gs : GS k σ) (gj : GJ k J) (hk0 : 0 ≤ k) (rq : RgQ (Core σ) σ J) (hk : k + ((bss.length : Nat) : Int) ≤ 1000000) (hV : ∀ b, ob = some b ∨ N b → V b) (nrb : N rb) (rp : Rpb (fun b => N b ∧ b ≠ rb) w rb v (batS park bss σ J).2.2) (hq : Qu W w ob t9 vals bss) (hn : bss.length ≤ 100000) (h1 : 1 ≤ bss.length)
    (next : NextS W r m K B1 t25 t26 t27 (k + ((bss.length : Nat) : Int))) : s6_p7 K B1 (P r 0) (P m 0) nilS nilS t9 (.bool true) v t25 t26 t27 w := by
  have hB : ∀ bs ∈ bss, By bs := fun bs h => (hq.by_ bs h).1
  obtain ⟨⟨gs1, gj1⟩, hor⟩ := bat_f rq gj gs hB hk
  rcases hor with ⟨d, rq1, ms1, out1, hch⟩ | ⟨d, o, rd, out1⟩
  · rw [out1] at rp
    unfold s6_p7
    refine len_7 rp hq hn (by rw [List.length_map, stbL_len]) ?_
    refine CU.up z ?_
    rw [d]
    simp only [e_not, Bool.not_false, Bool.not_true, e_gdft, e_pkf, e_iff]
    refine up_loop z d hV nrb rp hq hn hch fun w1 S1 z1 hk1 hS1 => ?_
    rw [← ms1] at z1
    exact next w1 _ _ [] none nilS [] V (.inl ⟨⟨e, _, z1, d, gs1, rq1⟩, rfl⟩) (fun b q => by cases q) Qu.nil gj1 (by omega) (Int.le_refl _) (by simp) (fun _ => rfl)
  · rw [out1] at rp
    have hup : ∀ {K' : Value → World → Prop}, K' (.bool false) w → cl Tryz.prog 34 #[P r 0] K' w := fun hK' => CU.up z (by rw [d]; exact hK')
    refine send_7_dn (wu := true) hup rp (fun o ho => by obtain ⟨y, _, e⟩ := List.mem_map.1 ho; exact e.symm) hq hn (by rw [List.length_map]) ?_
    exact next w _ _ bss ob t9 vals V (.inr ⟨σ, rq.g, rd, .inl ⟨e, _, z, d, gs1⟩⟩) (fun b q => hV b (.inl q)) hq gj1 (by omega) (Int.le_refl _) hn (fun e => by rw [e] at h1; simp at h1)
set_option maxHeartbeats 4000000 in
/-- requests are sent -/
theorem send_8 (h : CS W r m k J inF V w) (gj : GJ k J) (hk0 : 0 ≤ k) (hq : Qu W w obq qv qvals bss) (hf : Qu W w obf fv fvals inF) (hne : ∀ b, obq = some b → obf ≠ some b) (hVq : ∀ b, obq = some b → V b) (hVf : ∀ b, obf = some b → V b) (hVo : V o8) (hno : obq ≠ some o8) (r8 : Row w o8 39 (opC op)) (hp : Ar bC 1 (fun b => b < W.heap.size) W op.2 op.1.bs) (hb : By op.1.bs) (hbl : op.1.bs.length ≤ 65536) (hk : k + ((bss.length : Nat) : Int) + 1 ≤ 100000) (hfl : inF.length ≤ 100000) (hfe : inF = [] → fv = nilS)
    (next : NextS W r m K B1 t25 t26 t27 (k + ((bss.length : Nat) : Int) + 1)) : s6_p8 K B1 (P r 0) (P m 0) qv fv (P o8 0) t25 t26 t27 w := by
  unfold s6_p8
  refine fdp (ld1_r (v := op.2) r8 rfl ?_)
  have hlt := h.lt
  refine hq.add hp hb hbl (by omega) fun w1 v1 ob1 q1 hk1 ho1 => ?_
  have h1 := h.gro hk1 fun b q => hVq b q
  have r81 := hk1.row r8 fun q => hno q
  have f1 := hf.kp hk1 fun b e q => hne b q e
  have hob1 : ∀ b, ob1 = some b → V b ∨ Nb w w1 b := fun b q => by
    rcases ho1 with e | ⟨c, e, hc⟩
    · rw [e] at q; exact .inl (hVq b q)
    · rw [e] at q
      have q := Option.some.inj q
      subst q
      have sl1 := q1.sl
      rw [e] at sl1
      exact .inr ⟨hc, sl1.lt⟩
  have hln : (bss ++ [op.1.bs]).length = bss.length + 1 := by rw [List.length_append]; rfl
  generalize hbs : bss ++ [op.1.bs] = bs1 at q1 hln
  generalize qvals ++ [op.2] = vals1 at q1
  have hone : bs1.length = 1 → bs1 = [op.1.bs] := fun e => by
    have : bss = [] := List.length_eq_zero_iff.1 (by omega)
    rw [← hbs, this]; rfl
  have kW := h1.k0
  have kz := kW.size
  have hvl := q1.ln
  -- the two ways to send
  rcases h1 with ⟨⟨e, σ, z, hd, gs, rq⟩, hinf⟩ | ⟨c, g, rd, h2⟩
  · have efv := hfe hinf
    rw [efv]
    refine CU.up z ?_
    rw [hd]
    refine bsq_r (l := [nilS]) rfl fun w2 r2 hk2 hz2 => ?_
    have sl2 : Sl one 1 w2 37 (some w1.heap.size) (.slice (some ⟨w1.heap.size, 0, none⟩) 1 1) [nilS] := ⟨1, [], rfl, Nat.le_refl _, rfl, by rw [List.append_nil]; exact r2⟩
    have qA : Ar one 1 (fun b => ob1 = some b) w1 v1 vals1 := q1.sl.ar one_len (by omega) fun b e => e
    refine qA.ln ?_
    have z2 := z.gro leRg (S := Emp) hk2 fun b q => q.elim
    have q2 := q1.kp hk2 fun _ _ q => q
    have r82 := hk2.row' r81
    rw [hvl]
    simp only [e_eql]
    by_cases h1e : bs1.length = 1
    · have e1 : (((bs1.length : Nat) : Int) == 1) = true := by rw [h1e]; rfl
      simp only [e1, e_ift]
      refine fdp (ld1_r (v := op.2) r82 rfl ?_)
      have eb := hone h1e
      have ebat := bat_one (bs := op.1.bs) (σ := σ) (J := J)
      rw [← eb] at ebat
      obtain ⟨O, G, zl, mo, hdj⟩ := z2
      have kz2 := zl.k.size
      refine zl.send gs (by omega) (hp.kp' zl.k) (fun b q => by omega) hb fun w3 v3 b3 S3 z3 sl3 hb3 hk3 hS3 hW3 => ?_
      have hz2' : w1.heap.size < w2.heap.size := by omega
      have sl23 := sl2.kp hk3 fun b e => by cases e; exact hS3 _ (.inl (.inr ⟨Nat.le_refl _, hz2'⟩))
      refine sl_ixp sl23 (i := 0) (by simp) ?_
      refine sl_upd (i := 0) (j := 0) (y := v3) sl23 one_len (by simp) (by decide) (by obtain ⟨cap, junk, e, _⟩ := sl3; rw [e]; rfl) rfl fun w4 sl4 hk4 hz4 => ?_
      have hne4 : b3 ≠ w1.heap.size := by omega
      have q3 := q2.kp hk3 fun b e => hS3 b (.inl (.inl (hob1 b e)))
      have q4 := q3.kp hk4 fun b e (q : b = w1.heap.size) => by
        rcases hob1 b e with r | r
        · have := hlt b r; have := hk1.size; omega
        · have := r.2; omega
      have hrpn : RpN (hndS park op.1.bs σ J).2.2 := by
        have hrp := stbS_rpn (J := J) (bs := op.1.bs) park_cv (by decide) gs.g
        unfold hndS
        simp only
        split
        · exact hrp
        · exact RpN.rf ⟨by decide, by decide⟩
      have hll := eR_len hrpn (hndS_cnt park op.1.bs σ J)
      have mo3 := mo.kp hk3 fun b q => ⟨fun r => hS3 b (.inr (.inl r)) q, fun r => hS3 b (.inr (.inr r)) q⟩
      have zg3 : Zg (YE W r e (batS park bs1 σ J).1 (batS park bs1 σ J).2.1) m σ.ms (fun b => (((V b ∨ Nb w w1 b) ∨ Nb w1 w2 b) ∨ b = b3)) w3 := by
        rw [ebat]
        refine ⟨O, G, z3.sub fun b q => ?_, mo3, fun b q => ?_⟩
        · rcases q with (q | q) | q | q
          · exact .inl (.inl q)
          · exact .inr q
          · exact .inl (.inr (.inl q))
          · exact .inl (.inr (.inr q))
        · rcases q with q | q
          · exact hdj b q
          · subst q
            exact ⟨fun r => by have := mo.lt b (.inl r); omega, fun r => by have := mo.lt b (.inr r); omega⟩
      have zg4 := (zg3.gro leRg hk4 fun b (q : b = w1.heap.size) => .inl (.inr ⟨by omega, by omega⟩)).sub leRg (V' := fun b => (((V b ∨ Nb w w1 b) ∨ Nb w1 w2 b) ∨ b = b3)) fun b q => .inl q
      refine send_7_up (N := fun b => b = w1.heap.size ∨ b = b3) (rb := w1.heap.size) zg4 gs gj hk0 rq (by omega) (fun b q => ?_) (.inl rfl) ?_ q4 (by omega) (by omega) ?_
      · rcases q with q | q | q
        · exact .inl (.inl (hob1 b q))
        · subst q; exact .inl (.inr ⟨Nat.le_refl _, hz2'⟩)
        · exact .inr q
      · rw [ebat]
        refine ⟨[v3], sl4, rfl, fun i a b => ?_⟩
        have : i = 0 := by simpa using a
        subst this
        exact ((sl3.ar bC_len (by omega) fun c q => (Option.some.inj q).symm).kp hk4 fun b (q : b = b3) (r : b = w1.heap.size) => hne4 (q ▸ r)).mono fun b (q : b = b3) => ⟨.inr q, by rw [q]; exact hne4⟩
      · rw [show k + ((bs1.length : Nat) : Int) = k + ((bss.length : Nat) : Int) + 1 by omega]
        exact next
    · have e1 : (((bs1.length : Nat) : Int) == 1) = false := by rw [beq_eq_false_iff_ne]; omega
      simp only [e1, e_iff]
      obtain ⟨O, G, zl, mo, hdj⟩ := z2
      have hby : ∀ bs ∈ bs1, By bs := fun bs h => (q2.by_ bs h).1
      refine zl.batch gj gs (by omega) (q2.rwb zl.k (by omega)) (fun b q => q.imp (fun q => .inl (.inl (hob1 b q))) id) hby (by omega) fun w3 v3 rb S3 N z3 rp3 nrb hN3 hk3 hS3 hW3 => ?_
      have q3 := q2.kp hk3 fun b e => hS3 b (.inl (.inl (hob1 b e)))
      have zg3 : Zg (YE W r e (batS park bs1 σ J).1 (batS park bs1 σ J).2.1) m σ.ms (fun b => ((V b ∨ Nb w w1 b) ∨ Nb w1 w2 b) ∨ N b) w3 := by
        refine ⟨O, G, z3.sub fun b q => ?_, mo.kp hk3 fun b q => ⟨fun r => hS3 b (.inr (.inl r)) q, fun r => hS3 b (.inr (.inr r)) q⟩, fun b q => ?_⟩
        · rcases q with (q | q) | q | q
          · exact .inl (.inl q)
          · exact .inr q
          · exact .inl (.inr (.inl q))
          · exact .inl (.inr (.inr q))
        · rcases q with q | q
          · exact hdj b q
          · have := hN3 b q
            exact ⟨fun r => by have := mo.lt b (.inl r); omega, fun r => by have := mo.lt b (.inr r); omega⟩
      refine send_7_up zg3 gs gj hk0 rq (by omega) (fun b q => ?_) nrb rp3 q3 (by omega) (by omega) ?_
      · rcases q with q | q
        · exact .inl (.inl (hob1 b q))
        · exact .inr q
      · rw [show k + ((bs1.length : Nat) : Int) = k + ((bss.length : Nat) : Int) + 1 by omega]
        exact next
  · refine h2.up ?_
    refine bsq_r (l := [nilS]) rfl fun w2 r2 hk2 hz2 => ?_
    have sl2 : Sl one 1 w2 37 (some w1.heap.size) (.slice (some ⟨w1.heap.size, 0, none⟩) 1 1) [nilS] := ⟨1, [], rfl, Nat.le_refl _, rfl, by rw [List.append_nil]; exact r2⟩
    have qA : Ar one 1 (fun b => ob1 = some b) w1 v1 vals1 := q1.sl.ar one_len (by omega) fun b e => e
    refine qA.ln ?_
    have h3 := h2.gro (S := Emp) hk2 fun b q => q.elim
    have q2 := q1.kp hk2 fun _ _ q => q
    have f2 := f1.kp hk2 fun _ _ q => q
    have r82 := hk2.row' r81
    have hVf2 : ∀ b, obf = some b → ((V b ∨ Nb w w1 b) ∨ Nb w1 w2 b) := fun b q => .inl (.inl (hVf b q))
    rw [hvl]
    simp only [e_eql]
    -- the end, whoever was there
    have fin : ∀ {w' : World} {V' Fr' : Nat → Prop} {rb' : Nat} {v' : Value} {outs' : List (List Int)}, RD W r m (k + ((bs1.length : Nat) : Int)) J c V' w' → (∀ b, obf = some b → V' b) → Rpb Fr' w' rb' v' outs' → (∀ o ∈ outs', o = [19]) → outs'.length = bs1.length → Qu W w' ob1 v1 vals1 bs1 → Qu W w' obf fv fvals inF → s6_p7 K B1 (P r 0) (P m 0) nilS fv v1 (.bool false) v' t25 t26 t27 w' := fun {w' V' Fr' rb' v' outs'} hr hVf' rp ho hl hq' hf' => by
      refine send_7_dn (wu := false) (fun hK' => hr.up hK') rp ho hq' (by omega) hl ?_
      exact next w' J _ inF obf fv fvals V' (.inr ⟨c, g, rd, hr⟩) hVf' hf' (gj.mono (by omega)) (by omega) (by omega) hfl hfe
    by_cases h1e : bs1.length = 1
    · have e1 : (((bs1.length : Nat) : Int) == 1) = true := by rw [h1e]; rfl
      simp only [e1, e_ift]
      refine fdp (ld1_r (v := op.2) r82 rfl ?_)
      have hz2' : w1.heap.size < w2.heap.size := by omega
      -- the reply is put in its place
      have put : ∀ {w3 : World} {V3 : Nat → Prop} {v3 : Value} {b3 : Nat}, RD W r m (k + ((bs1.length : Nat) : Int)) J c V3 w3 → (∀ b, (V b ∨ Nb w w1 b) ∨ Nb w1 w2 b → V3 b) → Sl one 1 w3 37 (some w1.heap.size) (.slice (some ⟨w1.heap.size, 0, none⟩) 1 1) [nilS] → Sl bC 1 w3 5 (some b3) v3 [19] → w2.heap.size ≤ b3 → Qu W w3 ob1 v1 vals1 bs1 → Qu W w3 obf fv fvals inF → ixs 1 (.slice (some ⟨w1.heap.size, 0, none⟩) 1 1) (I 0) (fun t58 w => st1 t58 v3 (fun w => s6_p7 K B1 (P r 0) (P m 0) nilS fv v1 (.bool false) (.slice (some ⟨w1.heap.size, 0, none⟩) 1 1) t25 t26 t27 w) w) w3 := fun {w3 V3 v3 b3} hr hV3 sl3 slr hb3 hq3 hf3 => by
        refine sl_ixp sl3 (i := 0) (by simp) ?_
        refine sl_upd (i := 0) (j := 0) (y := v3) sl3 one_len (by simp) (by decide) (by obtain ⟨cap, junk, e, _⟩ := slr; rw [e]; rfl) rfl fun w4 sl4 hk4 hz4 => ?_
        have hne4 : b3 ≠ w1.heap.size := by omega
        have hz1 := hk1.size
        have nob : ∀ b, (V b ∨ Nb w w1 b) → ¬ b = w1.heap.size := fun b q r => by
          rcases q with q | q
          · have := hlt b q; omega
          · have := q.2; omega
        refine fin (Fr' := fun b => b = b3) (rb' := w1.heap.size) (outs' := [[19]]) ((hr.gro hk4 fun b (q : b = w1.heap.size) => hV3 b (.inr ⟨by omega, by omega⟩)).sub (V' := V3) fun b q => .inl q) (fun b q => hV3 b (hVf2 b q)) ⟨[v3], sl4, rfl, fun i a b => ?_⟩ (fun o ho => List.mem_singleton.1 ho) (by rw [h1e]; rfl) (hq3.kp hk4 fun b e => nob b (hob1 b e)) (hf3.kp hk4 fun b e => nob b (.inl (hVf b e)))
        have : i = 0 := by simpa using a
        subst this
        exact (slr.ar bC_len (by simp) fun c q => (Option.some.inj q).symm).kp hk4 fun b (q : b = b3) (r : b = w1.heap.size) => hne4 (q ▸ r)
      rcases h3 with ⟨e, σ, ⟨O, G, zl, mo, hdj⟩, hd, gs⟩ | ⟨O, G, zl, mo, hdj⟩
      · have kz2 := zl.k.size
        obtain ⟨gs1, gj1⟩ := hnd_keep (bs := op.1.bs) gj gs (by omega)
        have ebat := bat_one (bs := op.1.bs) (σ := σ) (J := J)
        obtain ⟨d1, d2, d3⟩ := bat_dn (bss := [op.1.bs]) (J := J) hd
        rw [ebat] at d1 d2 d3
        replace d3 : eR (hndS park op.1.bs σ J).2.2 = [19] := (List.cons.inj d3).1
        refine zl.send gs (by omega) (hp.kp' zl.k) (fun b q => by omega) hb fun w3 v3 b3 S3 z3 sl3 hb3 hk3 hS3 hW3 => ?_
        rw [d3] at sl3
        have d2' : (hndS park op.1.bs σ J).2.1 = J := d2
        rw [d2'] at z3
        refine put (V3 := fun b => ((V b ∨ Nb w w1 b) ∨ Nb w1 w2 b) ∨ b = b3) (.inl ⟨e, _, ⟨O, G, z3.sub fun b q => ?_, mo.kp hk3 fun b q => ⟨fun r => hS3 b (.inr (.inl r)) q, fun r => hS3 b (.inr (.inr r)) q⟩, fun b q => ?_⟩, d1, ?_⟩) (fun b q => .inl q) (sl2.kp hk3 fun b e => by cases e; exact hS3 _ (.inl (.inr ⟨Nat.le_refl _, hz2'⟩))) sl3 hb3 (q2.kp hk3 fun b e => hS3 b (.inl (.inl (hob1 b e)))) (f2.kp hk3 fun b e => hS3 b (.inl (hVf2 b e)))
        · rcases q with (q | q) | q | q
          · exact .inl (.inl q)
          · exact .inr q
          · exact .inl (.inr (.inl q))
          · exact .inl (.inr (.inr q))
        · rcases q with q | q
          · exact hdj b q
          · subst q
            exact ⟨fun r => by have := mo.lt b (.inl r); omega, fun r => by have := mo.lt b (.inr r); omega⟩
        · rw [show k + ((bs1.length : Nat) : Int) = k + 1 by omega]; exact gs1
      · refine zl.send2 fun w3 v3 b3 sl3 hb3 hk3 => ?_
        exact put (V3 := fun b => (V b ∨ Nb w w1 b) ∨ Nb w1 w2 b) (.inr (Zg.emp laRg ⟨O, G, zl, mo, hdj⟩ hk3)) (fun b q => q) (sl2.kp' hk3) sl3 hb3 (q2.kp hk3 fun _ _ q => q) (f2.kp hk3 fun _ _ q => q)
    · have e1 : (((bs1.length : Nat) : Int) == 1) = false := by rw [beq_eq_false_iff_ne]; omega
      simp only [e1, e_iff]
      have hby : ∀ bs ∈ bs1, By bs := fun bs h => (q2.by_ bs h).1
      have h19 : ∀ o ∈ (bs1.map fun _ => ([19] : List Int)), o = [19] := fun o ho => by obtain ⟨y, _, e⟩ := List.mem_map.1 ho; exact e.symm
      rcases h3 with ⟨e, σ, ⟨O, G, zl, mo, hdj⟩, hd, gs⟩ | ⟨O, G, zl, mo, hdj⟩
      · obtain ⟨d1, d2, d3⟩ := bat_dn (bss := bs1) (J := J) hd
        obtain ⟨gs1, gj1⟩ := bat_keep (bss := bs1) gj gs (by omega)
        refine zl.batch gj gs (by omega) (q2.rwb zl.k (by omega)) (fun b q => q.imp (fun q => .inl (.inl (hob1 b q))) id) hby (by omega) fun w3 v3 rb S3 N z3 rp3 nrb hN3 hk3 hS3 hW3 => ?_
        rw [d2] at z3
        rw [d3] at rp3
        refine fin (V' := fun b => ((V b ∨ Nb w w1 b) ∨ Nb w1 w2 b) ∨ N b) (.inl ⟨e, _, ⟨O, G, z3.sub fun b q => ?_, mo.kp hk3 fun b q => ⟨fun r => hS3 b (.inr (.inl r)) q, fun r => hS3 b (.inr (.inr r)) q⟩, fun b q => ?_⟩, d1, gs1⟩) (fun b q => .inl (hVf2 b q)) rp3 h19 (by rw [List.length_map]) (q2.kp hk3 fun b e => hS3 b (.inl (.inl (hob1 b e)))) (f2.kp hk3 fun b e => hS3 b (.inl (hVf2 b e)))
        · rcases q with (q | q) | q | q
          · exact .inl (.inl q)
          · exact .inr q
          · exact .inl (.inr (.inl q))
          · exact .inl (.inr (.inr q))
        · rcases q with q | q
          · exact hdj b q
          · have := hN3 b q
            exact ⟨fun r => by have := mo.lt b (.inl r); omega, fun r => by have := mo.lt b (.inr r); omega⟩
      · refine zl.batch (q2.rwb zl.k (by omega)) (by omega) fun w3 v3 rb rp3 nrb hk3 => ?_
        exact fin (V' := fun b => (V b ∨ Nb w w1 b) ∨ Nb w1 w2 b) (.inr (Zg.emp laRg ⟨O, G, zl, mo, hdj⟩ hk3)) (fun b q => hVf2 b q) rp3 h19 (by rw [List.length_map]) (q2.kp hk3 fun _ _ q => q) (f2.kp hk3 fun _ _ q => q)
end
end Go.Proofs.Qxb6500896aGreat
