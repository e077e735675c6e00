import Derived.Test.Qxb6500895aD16
namespace Go.Proofs.Qxb6500895a
open Go.Sh Go.RowKit
set_option linter.unusedVariables false
set_option linter.unusedSimpArgs false

theorem setp {F : Int → Value} {zs : List Int} {junk : List Value} {i : Nat} (hi : i < zs.length) (y : Int) : (zs.map F ++ junk).set i (F y) = (zs.set i y).map F ++ junk := by
  rw [List.set_append, if_pos (by rw [List.length_map]; exact hi), List.map_set]
theorem getp {F : Int → Value} {zs : List Int} {junk : List Value} {i : Nat} (hi : i < zs.length) : (zs.map F ++ junk)[i]? = some (F zs[i]) := by
  rw [List.getElem?_append_left (by rw [List.length_map]; exact hi), List.getElem?_map, List.getElem?_eq_getElem hi]; rfl
def mix (x y : List Int) (i : Nat) : List Int := x.take i ++ y.drop i
theorem mix_len {x y : List Int} {i : Nat} (hx : x.length = 16) (hy : y.length = 16) (hi : i ≤ 16) : (mix x y i).length = 16 := by
  unfold mix; rw [List.length_append, List.length_take, List.length_drop]; omega
theorem mix_step {x y : List Int} {i : Nat} (hx : x.length = 16) (hy : y.length = 16) (hi : i < 16) : (mix x y i).set i (x[i]'(by omega)) = mix x y (i + 1) := by
  unfold mix
  have ht : (x.take i).length = i := by rw [List.length_take]; omega
  rw [List.set_append, if_neg (by omega), ht, Nat.sub_self, List.take_succ_eq_append_getElem (by omega), List.append_assoc]
  congr 1
  rw [List.drop_eq_getElem_cons (by omega)]
  rfl

section
variable {W w w' : World} {d oo t5 t7 t10 lo : Nat} {m m' : Mem} {s s' s1 : DS} {vs ws : List Value} {ob wb : Nat → Nat} {f : Nat → List Int} {g : Nat → Option (List Int)} {kv v : Value} {keep : List Int} {torn at_ : Int} {xs : List Op} {K : Value → World → Prop} {B1 : List Value → World → Prop}

abbrev OV (oo : Nat) : Value := .slice (some ⟨oo, 0, none⟩) 12 12
def J5 (W : World) (d oo t5 : Nat) (v : Value) (xs : List Op) (n : Nat) (l : List Value) (w' : World) : Prop :=
  ∃ (j : Nat) (m : Mem) (s : DS) (vs ws : List Value) (ob wb : Nat → Nat), j ≤ xs.length ∧ n = xs.length - j ∧ l = [P d 0, OV oo, P t5 0, v, I xs.length, I j] ∧ St5 W w' d m s oo t5 vs ws ob wb s.flu s.fr 0
abbrev K5 (W : World) : Value → World → Prop := fun r w' => r = .bool true ∧ Below W.heap.size W w'
abbrev B5 (W : World) (d oo t5 : Nat) (v : Value) (xs : List Op) (j : Nat) : List Value → World → Prop := fun l' w' => ∃ n', n' < xs.length - j ∧ J5 W d oo t5 v xs n' l' w'

theorem next5 {j : Nat} (hj : j < xs.length) (hl : xs.length ≤ 65536) (h : St5 W w d m s oo t5 vs ws ob wb s.flu s.fr 0) : s5_p2 (K5 W) (B5 W d oo t5 v xs j) (P d 0) (OV oo) (P t5 0) v (I xs.length) (I j) w := by
  unfold s5_p2
  simp only [e_fd, e_nck, e_pkt, e_pkf, e_gdtt, e_gdtf, e_gdft, e_gdff, e_ift, e_iff, e_not, e_ln, e_lnT, e_cp, e_cvi, e_ex20, e_ex21, e_ex30, e_ex31, e_ex32, e_add, e_sub, e_mul, e_quo, e_rem, e_and, e_or, e_xor, e_shl, e_shr, e_eql, e_neq, e_lss, e_leq, e_gtr, e_geq, e_beq, e_bne, e_peq1, e_peq2, e_pne1, e_pne2, e_zeq1, e_zeq2, e_zne1, e_zne2, e_feq1, e_fne1, e_feq2, e_fne2, e_seq, e_sne, e_ta1, e_ta2, Nat.zero_add, Nat.add_zero, Bool.not_true, Bool.not_false]
  rw [wrap64_id (by omega) (by omega)]
  exact ⟨xs.length - (j + 1), by omega, j + 1, m, s, vs, ws, ob, wb, by omega, rfl, by simp, h⟩

theorem ixt {k : Nat} (hk : k < 12) (hK : K (P t5 k) w) : ixa 12 1 (P t5 0) (I (k : Nat)) K w := by
  refine ⟨⟨by omega, by omega⟩, ?_⟩
  rw [add_mk, show ((k : Int)).toNat = k by omega, Nat.zero_add, Nat.mul_one]
  exact hK

theorem tail5 {j : Nat} (hj : j < xs.length) (hl : xs.length ≤ 65536) (h : St5 W w d m s oo t5 vs ws ob wb f g lo) (hf : ∀ i, i < 12 → f i = s.flu i) (hfr : s.fr = fun _ => none) (ho : s.off = true) :
    s5_p3 (K5 W) (B5 W d oo t5 v xs j) (P d 0) (OV oo) (P t5 0) v (I xs.length) (I j) w := by
  unfold s5_p3
  refine bdq_r (l := nil12) rfl ?_
  refine stn_r h.rt rfl (show 0 + 12 ≤ ws.length by rw [h.wl]; decide) rfl fun w1 r1 hk1 hz1 => ?_
  have r1' : Row w1 t5 48 nil12 := by
    have : ws.drop (0 + 12) = [] := List.drop_of_length_le (by rw [h.wl]; omega)
    rw [this, List.append_nil] at r1
    exact r1
  have h1 := (h.clear hk1 r1').congr (f' := s.flu) (g' := s.fr) hf (fun i _ => by rw [hfr])
  refine clone_ok h1.base.dk fun w2 c mc hk2 hc hcf => ?_
  have h2 := h1.kp' hk2
  have cne : ∀ {w3 : World} {mc' : Mem} {sc : DS}, Dk w3 c mc' sc → ∀ b, b = c → W.heap.size ≤ b ∧ ¬ Own d m b ∧ b ≠ oo ∧ b ≠ t5 ∧ ∀ l, ¬ Row w3 b 5 l := by
    intro w3 mc' sc hd b e
    subst e
    have c1 := hcf b (.inl rfl)
    have c2 := h1.base.bel.size
    exact ⟨by omega, fun q => by have := h1.base.dk.lt q; omega, fun q => by have := h1.ro.lt; omega, fun q => by have := h1.rt.lt; omega, fun l q => row_ne q hd.disk (by decide) rfl⟩
  refine restart_ok hc fun w3 r3 hc3 hk3 he3 => ?_
  have hrs : (reS s).2 = { s with off := false, rs := inc s.rs } := by unfold reS; rw [if_pos ho]
  rw [hrs] at hc3
  have h3 := h2.kpT hk3 (cne hc)
  refine readAll_ok (Q := fun _ => False) hc3 rfl (fun _ q => q.elim) fun w4 av r hk4 hc4 hav => ?_
  have h4 := h3.kpT hk4 (cne hc3)
  refine sameSectors_ok hav h4.secL (fun i _ => ?_) fun w5 hk5 => ?_
  · show (s.fr i).getD (s.flu i) = s.flu i
    rw [hfr]; rfl
  simp only [Bool.not_true, e_fd, e_nck, e_pkt, e_pkf, e_gdtt, e_gdtf, e_gdft, e_gdff, e_ift, e_iff, e_not, e_ln, e_lnT, e_cp, e_cvi, e_ex20, e_ex21, e_ex30, e_ex31, e_ex32, e_add, e_sub, e_mul, e_quo, e_rem, e_and, e_or, e_xor, e_shl, e_shr, e_eql, e_neq, e_lss, e_leq, e_gtr, e_geq, e_beq, e_bne, e_peq1, e_peq2, e_pne1, e_pne2, e_zeq1, e_zeq2, e_zne1, e_zne2, e_feq1, e_fne1, e_feq2, e_fne2, e_seq, e_sne, e_ta1, e_ta2, Nat.zero_add, Nat.add_zero, Bool.not_true, Bool.not_false]
  exact next5 hj hl (h4.kp' hk5)

/-- the sectors torn or kept -/
theorem crash5 {j : Nat} (h : St5 W w d m s oo t5 vs ws ob wb s1.flu s1.fr 0) (hpl : Pl W w d m kv keep) (r10 : Row w t10 32 [kv, I torn, I at_])
    (hK : ∀ w' vs' ob' f' g', St5 W w' d m s oo t5 vs' ws ob' wb f' g' 12 → (∀ i, i < 12 → f' i = cutF s1 keep torn at_ i) → s5_p3 K B1 (P d 0) (OV oo) (P t5 0) v (I xs.length) (I j) w') :
    s5_p14 K B1 (P d 0) (OV oo) (P t5 0) (P t10 0) v (I xs.length) (I j) (I 0) w := by
  refine ⟨fun n l w' => ∃ (k : Nat) (vs : List Value) (ob : Nat → Nat) (f : Nat → List Int) (g : Nat → Option (List Int)), k ≤ 12 ∧ n = 12 - k ∧ l = [P d 0, OV oo, P t5 0, P t10 0, v, I xs.length, I j, I k] ∧ St5 W w' d m s oo t5 vs ws ob wb f g k ∧ (∀ i, i < 12 → i < k → f i = cutF s1 keep torn at_ i) ∧ (∀ i, i < 12 → k ≤ i → f i = s1.flu i ∧ g i = s1.fr i) ∧ Pl W w' d m kv keep ∧ Row w' t10 32 [kv, I torn, I at_],
    12, ⟨0, vs, ob, _, _, by omega, by omega, rfl, h, fun i _ q => by omega, fun i _ _ => ⟨rfl, rfl⟩, hpl, r10⟩, ?_⟩
  clear h hpl r10
  rintro n l w ⟨k, vs, ob, f, g, hk, rfl, rfl, h, hlow, hup, hpl, r10⟩
  rw [s5_p14_Fe]
  unfold s5_p13
  simp only [e_fd, e_nck, e_pkt, e_pkf, e_gdtt, e_gdtf, e_gdft, e_gdff, e_ift, e_iff, e_not, e_ln, e_lnT, e_cp, e_cvi, e_ex20, e_ex21, e_ex30, e_ex31, e_ex32, e_add, e_sub, e_mul, e_quo, e_rem, e_and, e_or, e_xor, e_shl, e_shr, e_eql, e_neq, e_lss, e_leq, e_gtr, e_geq, e_beq, e_bne, e_peq1, e_peq2, e_pne1, e_pne2, e_zeq1, e_zeq2, e_zne1, e_zne2, e_feq1, e_fne1, e_feq2, e_fne2, e_seq, e_sne, e_ta1, e_ta2, Nat.zero_add, Nat.add_zero, Bool.not_true, Bool.not_false]
  by_cases hlt : k < 12
  · have hlt' : (k : Int) < 12 := by omega
    simp only [hlt', decide_true, e_fd, e_nck, e_pkt, e_pkf, e_gdtt, e_gdtf, e_gdft, e_gdff, e_ift, e_iff, e_not, e_ln, e_lnT, e_cp, e_cvi, e_ex20, e_ex21, e_ex30, e_ex31, e_ex32, e_add, e_sub, e_mul, e_quo, e_rem, e_and, e_or, e_xor, e_shl, e_shr, e_eql, e_neq, e_lss, e_leq, e_gtr, e_geq, e_beq, e_bne, e_peq1, e_peq2, e_pne1, e_pne2, e_zeq1, e_zeq2, e_zne1, e_zne2, e_feq1, e_fne1, e_feq2, e_fne2, e_seq, e_sne, e_ta1, e_ta2, Nat.zero_add, Nat.add_zero, Bool.not_true, Bool.not_false]
    obtain ⟨hfk, hgk⟩ := hup k hlt (Nat.le_refl _)
    -- the next sector
    have next : ∀ w' vs' ob' f' g', St5 W w' d m s oo t5 vs' ws ob' wb f' g' (k + 1) → f' k = cutF s1 keep torn at_ k → (∀ i, i < 12 → i ≠ k → f' i = f i ∧ g' i = g i) → Pl W w' d m kv keep → Row w' t10 32 [kv, I torn, I at_] →
        s5_p4 K B1 (fun l' w' => ∃ n', n' < 12 - k ∧ ∃ (k : Nat) (vs : List Value) (ob : Nat → Nat) (f : Nat → List Int) (g : Nat → Option (List Int)), k ≤ 12 ∧ n' = 12 - k ∧ l' = [P d 0, OV oo, P t5 0, P t10 0, v, I xs.length, I j, I k] ∧ St5 W w' d m s oo t5 vs ws ob wb f g k ∧ (∀ i, i < 12 → i < k → f i = cutF s1 keep torn at_ i) ∧ (∀ i, i < 12 → k ≤ i → f i = s1.flu i ∧ g i = s1.fr i) ∧ Pl W w' d m kv keep ∧ Row w' t10 32 [kv, I torn, I at_])
          (P d 0) (OV oo) (P t5 0) (P t10 0) v (I xs.length) (I j) (I k) w' := by
      intro w' vs' ob' f' g' h' e1 e2 hp' r'
      unfold s5_p4
      simp only [e_fd, e_nck, e_pkt, e_pkf, e_gdtt, e_gdtf, e_gdft, e_gdff, e_ift, e_iff, e_not, e_ln, e_lnT, e_cp, e_cvi, e_ex20, e_ex21, e_ex30, e_ex31, e_ex32, e_add, e_sub, e_mul, e_quo, e_rem, e_and, e_or, e_xor, e_shl, e_shr, e_eql, e_neq, e_lss, e_leq, e_gtr, e_geq, e_beq, e_bne, e_peq1, e_peq2, e_pne1, e_pne2, e_zeq1, e_zeq2, e_zne1, e_zne2, e_feq1, e_fne1, e_feq2, e_fne2, e_seq, e_sne, e_ta1, e_ta2, Nat.zero_add, Nat.add_zero, Bool.not_true, Bool.not_false]
      rw [wrap64_id (by omega) (by omega)]
      refine ⟨12 - (k + 1), by omega, k + 1, vs', ob', f', g', by omega, rfl, by simp, h', fun i hi hik => ?_, fun i hi hik => ?_, hp', r'⟩
      · by_cases e : i = k
        · subst e; exact e1
        · rw [(e2 i hi e).1]; exact hlow i hi (by omega)
      · rw [(e2 i hi (by omega)).1, (e2 i hi (by omega)).2]; exact hup i hi (by omega)
    have updg : ∀ i, i < 12 → i ≠ k → upd g k none i = g i := fun i _ e => by unfold upd; rw [if_neg e]
    have updf : ∀ x, ∀ i, i < 12 → i ≠ k → upd f k x i = f i := fun x i _ e => by unfold upd; rw [if_neg e]
    have updk : ∀ x, upd f k x k = x := fun x => by unfold upd; rw [if_pos rfl]
    unfold s5_p12
    refine ixt hlt ?_
    cases hx : s1.fr k with
    | none =>
      rw [hx] at hgk
      refine ld1_r h.rt (h.nil k hlt (Nat.le_refl _) hgk) ?_
      simp only [e_fd, e_nck, e_pkt, e_pkf, e_gdtt, e_gdtf, e_gdft, e_gdff, e_ift, e_iff, e_not, e_ln, e_lnT, e_cp, e_cvi, e_ex20, e_ex21, e_ex30, e_ex31, e_ex32, e_add, e_sub, e_mul, e_quo, e_rem, e_and, e_or, e_xor, e_shl, e_shr, e_eql, e_neq, e_lss, e_leq, e_gtr, e_geq, e_beq, e_bne, e_peq1, e_peq2, e_pne1, e_pne2, e_zeq1, e_zeq2, e_zne1, e_zne2, e_feq1, e_fne1, e_feq2, e_fne2, e_seq, e_sne, e_ta1, e_ta2, Nat.zero_add, Nat.add_zero, Bool.not_true, Bool.not_false]
      exact next w vs ob f _ h.drop (by rw [hfk]; unfold cutF; rw [hx]) (fun i hi e => ⟨rfl, updg i hi e⟩) hpl r10
    | some x =>
      rw [hx] at hgk
      obtain ⟨u, hu, hat⟩ := h.wri k hlt x hgk
      refine ld1_r h.rt hu ?_
      have hat0 := hat
      obtain ⟨capw, junkw, eu, hcw, rw_, hxl⟩ := hat
      rw [eu]
      simp only [e_fd, e_nck, e_pkt, e_pkf, e_gdtt, e_gdtf, e_gdft, e_gdff, e_ift, e_iff, e_not, e_ln, e_lnT, e_cp, e_cvi, e_ex20, e_ex21, e_ex30, e_ex31, e_ex32, e_add, e_sub, e_mul, e_quo, e_rem, e_and, e_or, e_xor, e_shl, e_shr, e_eql, e_neq, e_lss, e_leq, e_gtr, e_geq, e_beq, e_bne, e_peq1, e_peq2, e_pne1, e_pne2, e_zeq1, e_zeq2, e_zne1, e_zne2, e_feq1, e_fne1, e_feq2, e_fne2, e_seq, e_sne, e_ta1, e_ta2, Nat.zero_add, Nat.add_zero, Bool.not_true, Bool.not_false]
      refine ld1_r r10 (v := I torn) rfl ?_
      simp only [e_fd, e_nck, e_pkt, e_pkf, e_gdtt, e_gdtf, e_gdft, e_gdff, e_ift, e_iff, e_not, e_ln, e_lnT, e_cp, e_cvi, e_ex20, e_ex21, e_ex30, e_ex31, e_ex32, e_add, e_sub, e_mul, e_quo, e_rem, e_and, e_or, e_xor, e_shl, e_shr, e_eql, e_neq, e_lss, e_leq, e_gtr, e_geq, e_beq, e_bne, e_peq1, e_peq2, e_pne1, e_pne2, e_zeq1, e_zeq2, e_zne1, e_zne2, e_feq1, e_fne1, e_feq2, e_fne2, e_seq, e_sne, e_ta1, e_ta2, Nat.zero_add, Nat.add_zero, Bool.not_true, Bool.not_false]
      unfold s5_p11
      by_cases ht : (k : Int) = torn
      · have e : ((k : Int) == torn) = true := by simpa using ht
        simp only [e, e_fd, e_nck, e_pkt, e_pkf, e_gdtt, e_gdtf, e_gdft, e_gdff, e_ift, e_iff, e_not, e_ln, e_lnT, e_cp, e_cvi, e_ex20, e_ex21, e_ex30, e_ex31, e_ex32, e_add, e_sub, e_mul, e_quo, e_rem, e_and, e_or, e_xor, e_shl, e_shr, e_eql, e_neq, e_lss, e_leq, e_gtr, e_geq, e_beq, e_bne, e_peq1, e_peq2, e_pne1, e_pne2, e_zeq1, e_zeq2, e_zne1, e_zne2, e_feq1, e_fne1, e_feq2, e_fne2, e_seq, e_sne, e_ta1, e_ta2, Nat.zero_add, Nat.add_zero, Bool.not_true, Bool.not_false]
        unfold s5_p9
        obtain ⟨uo, huo, capo, junko, euo, hco, ro, hfl⟩ := h.old k hlt
        have hfl' : (s1.flu k).length = 16 := by rw [← hfk]; exact hfl
        have hne : ob k ≠ wb k := h.sep k k hlt hlt (by rw [hgk]; exact fun q => by cases q)
        refine ⟨fun n l w' => ∃ i : Nat, i ≤ clampN at_ ∧ n = 16 - i ∧ l = [P d 0, OV oo, P t5 0, P t10 0, I k, I i, v, I xs.length, I j, I k] ∧ St5 W w' d m s oo t5 vs ws ob wb (upd f k (mix x (s1.flu k) i)) g k ∧ Pl W w' d m kv keep ∧ Row w' t10 32 [kv, I torn, I at_],
          16, ⟨0, by omega, by omega, rfl, ?_, hpl, r10⟩, ?_⟩
        · refine h.congr (fun i hi => ?_) (fun _ _ => rfl)
          unfold upd
          by_cases e : i = k
          · subst e; rw [if_pos rfl, hfk]; rfl
          · rw [if_neg e]
        rintro n l w3 ⟨i, hi, rfl, rfl, h3, hp3, r3⟩
        have hcl : clampN at_ ≤ 16 := by unfold clampN; split; omega; split <;> omega
        rw [s5_p8_Fe]
        unfold s5_p7
        simp only [e_fd, e_nck, e_pkt, e_pkf, e_gdtt, e_gdtf, e_gdft, e_gdff, e_ift, e_iff, e_not, e_ln, e_lnT, e_cp, e_cvi, e_ex20, e_ex21, e_ex30, e_ex31, e_ex32, e_add, e_sub, e_mul, e_quo, e_rem, e_and, e_or, e_xor, e_shl, e_shr, e_eql, e_neq, e_lss, e_leq, e_gtr, e_geq, e_beq, e_bne, e_peq1, e_peq2, e_pne1, e_pne2, e_zeq1, e_zeq2, e_zne1, e_zne2, e_feq1, e_fne1, e_feq2, e_fne2, e_seq, e_sne, e_ta1, e_ta2, Nat.zero_add, Nat.add_zero, Bool.not_true, Bool.not_false]
        -- the loop's end
        have done : i = clampN at_ → s5_p4 K B1 (fun l' w' => ∃ n', n' < 12 - k ∧ ∃ (k : Nat) (vs : List Value) (ob : Nat → Nat) (f : Nat → List Int) (g : Nat → Option (List Int)), k ≤ 12 ∧ n' = 12 - k ∧ l' = [P d 0, OV oo, P t5 0, P t10 0, v, I xs.length, I j, I k] ∧ St5 W w' d m s oo t5 vs ws ob wb f g k ∧ (∀ i, i < 12 → i < k → f i = cutF s1 keep torn at_ i) ∧ (∀ i, i < 12 → k ≤ i → f i = s1.flu i ∧ g i = s1.fr i) ∧ Pl W w' d m kv keep ∧ Row w' t10 32 [kv, I torn, I at_])
            (P d 0) (OV oo) (P t5 0) (P t10 0) v (I xs.length) (I j) (I k) w3 := by
          intro ei
          refine next w3 vs ob _ _ h3.drop ?_ (fun i' hi' e' => ⟨updf _ i' hi' e', updg i' hi' e'⟩) hp3 r3
          rw [updk, ei]
          unfold cutF
          rw [hx]
          simp only
          rw [if_pos ht]
          rfl
        by_cases h16 : (i : Int) < 16
        · simp only [h16, decide_true, e_fd, e_nck, e_pkt, e_pkf, e_gdtt, e_gdtf, e_gdft, e_gdff, e_ift, e_iff, e_not, e_ln, e_lnT, e_cp, e_cvi, e_ex20, e_ex21, e_ex30, e_ex31, e_ex32, e_add, e_sub, e_mul, e_quo, e_rem, e_and, e_or, e_xor, e_shl, e_shr, e_eql, e_neq, e_lss, e_leq, e_gtr, e_geq, e_beq, e_bne, e_peq1, e_peq2, e_pne1, e_pne2, e_zeq1, e_zeq2, e_zne1, e_zne2, e_feq1, e_fne1, e_feq2, e_fne2, e_seq, e_sne, e_ta1, e_ta2, Nat.zero_add, Nat.add_zero, Bool.not_true, Bool.not_false]
          refine ld1_r r3 (v := I at_) rfl ?_
          simp only [e_fd, e_nck, e_pkt, e_pkf, e_gdtt, e_gdtf, e_gdft, e_gdff, e_ift, e_iff, e_not, e_ln, e_lnT, e_cp, e_cvi, e_ex20, e_ex21, e_ex30, e_ex31, e_ex32, e_add, e_sub, e_mul, e_quo, e_rem, e_and, e_or, e_xor, e_shl, e_shr, e_eql, e_neq, e_lss, e_leq, e_gtr, e_geq, e_beq, e_bne, e_peq1, e_peq2, e_pne1, e_pne2, e_zeq1, e_zeq2, e_zne1, e_zne2, e_feq1, e_fne1, e_feq2, e_fne2, e_seq, e_sne, e_ta1, e_ta2, Nat.zero_add, Nat.add_zero, Bool.not_true, Bool.not_false]
          by_cases ha : (i : Int) < at_
          · simp only [ha, decide_true, e_fd, e_nck, e_pkt, e_pkf, e_gdtt, e_gdtf, e_gdft, e_gdff, e_ift, e_iff, e_not, e_ln, e_lnT, e_cp, e_cvi, e_ex20, e_ex21, e_ex30, e_ex31, e_ex32, e_add, e_sub, e_mul, e_quo, e_rem, e_and, e_or, e_xor, e_shl, e_shr, e_eql, e_neq, e_lss, e_leq, e_gtr, e_geq, e_beq, e_bne, e_peq1, e_peq2, e_pne1, e_pne2, e_zeq1, e_zeq2, e_zne1, e_zne2, e_feq1, e_fne1, e_feq2, e_fne2, e_seq, e_sne, e_ta1, e_ta2, Nat.zero_add, Nat.add_zero, Bool.not_true, Bool.not_false]
            have hlti : i < clampN at_ := by unfold clampN; rw [if_neg (by omega)]; split <;> omega
            unfold s5_p6 s5_p6_d
            have h3d := h3.kp' (w' := drw w3) kp_drw
            obtain ⟨uo3, huo3, capo3, junko3, euo3, hco3, ro3, hfl3⟩ := h3d.old k hlt
            obtain ⟨u3, hu3, capw3, junkw3, eu3, hcw3, rw3, hxl3⟩ := h3d.wri k hlt x hgk
            refine ix_b (n := 12) hlt ?_
            refine ld1_r h3d.ro huo3 ?_
            refine ixt hlt ?_
            refine ld1_r h3d.rt hu3 ?_
            rw [eu3, euo3]
            refine ix_b (n := 16) (by omega) ?_
            refine ld1_r rw3 (getp (by omega)) ?_
            refine ix_b (n := 16) (by omega) ?_
            rw [updk] at ro3
            have hml := mix_len (i := i) hxl hfl' (by omega)
            refine st1_r ro3 (by simp [hml]; omega) rfl fun w4 r4 hk4 hz4 => ?_
            unfold s5_p5
            simp only [e_fd, e_nck, e_pkt, e_pkf, e_gdtt, e_gdtf, e_gdft, e_gdff, e_ift, e_iff, e_not, e_ln, e_lnT, e_cp, e_cvi, e_ex20, e_ex21, e_ex30, e_ex31, e_ex32, e_add, e_sub, e_mul, e_quo, e_rem, e_and, e_or, e_xor, e_shl, e_shr, e_eql, e_neq, e_lss, e_leq, e_gtr, e_geq, e_beq, e_bne, e_peq1, e_peq2, e_pne1, e_pne2, e_zeq1, e_zeq2, e_zne1, e_zne2, e_feq1, e_fne1, e_feq2, e_fne2, e_seq, e_sne, e_ta1, e_ta2, Nat.zero_add, Nat.add_zero, Bool.not_true, Bool.not_false]
            rw [wrap64_id (by omega) (by omega)]
            have h4 : St5 W w4 d m s oo t5 vs ws ob wb (upd (upd f k (mix x (s1.flu k) i)) k (mix x (s1.flu k) (i + 1))) g k := by
              refine h3d.poke hlt (mix_len hxl hfl' (by omega)) hk4 (fun l hl => ?_)
              have : (upd f k (mix x (s1.flu k) i)) k = mix x (s1.flu k) i := updk _
              rw [this] at hl
              have e5 : (mix x (s1.flu k) i).map U8 ++ l = (mix x (s1.flu k) i).map U8 ++ junko3 := by
                unfold Row at hl ro3
                rw [hl] at ro3
                simpa using ro3
              have : l = junko3 := List.append_cancel_left e5
              subst this
              rw [setp (by omega), mix_step hxl hfl' (by omega)] at r4
              exact r4
            have o1 := h3d.no1 k hlt
            refine ⟨16 - (i + 1), by omega, i + 1, by omega, rfl, by simp, h4.congr (fun i' _ => ?_) (fun _ _ => rfl), ?_, ?_⟩
            · unfold upd
              by_cases e : i' = k
              · rw [if_pos e, if_pos e]
              · rw [if_neg e, if_neg e, if_neg e]
            · refine (hp3.kp' (w' := drw w3) kp_drw).tag hk4 (fun b (q : b = ob k) => by rw [q]; exact o1.2) (fun b l (q : b = ob k) hr => ?_)
              subst q; exact row_ne hr ro3 (by decide) rfl
            · exact hk4.row r3.drw (fun (q : _ = _) => row_ne r3.drw ro3 (by decide) q)
          · simp only [ha, decide_false, e_fd, e_nck, e_pkt, e_pkf, e_gdtt, e_gdtf, e_gdft, e_gdff, e_ift, e_iff, e_not, e_ln, e_lnT, e_cp, e_cvi, e_ex20, e_ex21, e_ex30, e_ex31, e_ex32, e_add, e_sub, e_mul, e_quo, e_rem, e_and, e_or, e_xor, e_shl, e_shr, e_eql, e_neq, e_lss, e_leq, e_gtr, e_geq, e_beq, e_bne, e_peq1, e_peq2, e_pne1, e_pne2, e_zeq1, e_zeq2, e_zne1, e_zne2, e_feq1, e_fne1, e_feq2, e_fne2, e_seq, e_sne, e_ta1, e_ta2, Nat.zero_add, Nat.add_zero, Bool.not_true, Bool.not_false]
            refine done ?_
            unfold clampN at hi ⊢
            split at hi
            · rw [if_pos (by assumption)]; omega
            · rw [if_neg (by assumption)]
              split at hi
              · omega
              · rw [if_neg (by assumption)]; omega
        · simp only [h16, decide_false, e_fd, e_nck, e_pkt, e_pkf, e_gdtt, e_gdtf, e_gdft, e_gdff, e_ift, e_iff, e_not, e_ln, e_lnT, e_cp, e_cvi, e_ex20, e_ex21, e_ex30, e_ex31, e_ex32, e_add, e_sub, e_mul, e_quo, e_rem, e_and, e_or, e_xor, e_shl, e_shr, e_eql, e_neq, e_lss, e_leq, e_gtr, e_geq, e_beq, e_bne, e_peq1, e_peq2, e_pne1, e_pne2, e_zeq1, e_zeq2, e_zne1, e_zne2, e_feq1, e_fne1, e_feq2, e_fne2, e_seq, e_sne, e_ta1, e_ta2, Nat.zero_add, Nat.add_zero, Bool.not_true, Bool.not_false]
          exact done (by omega)
      · have e : ((k : Int) == torn) = false := by simpa using ht
        simp only [e, e_fd, e_nck, e_pkt, e_pkf, e_gdtt, e_gdtf, e_gdft, e_gdff, e_ift, e_iff, e_not, e_ln, e_lnT, e_cp, e_cvi, e_ex20, e_ex21, e_ex30, e_ex31, e_ex32, e_add, e_sub, e_mul, e_quo, e_rem, e_and, e_or, e_xor, e_shl, e_shr, e_eql, e_neq, e_lss, e_leq, e_gtr, e_geq, e_beq, e_bne, e_peq1, e_peq2, e_pne1, e_pne2, e_zeq1, e_zeq2, e_zne1, e_zne2, e_feq1, e_fne1, e_feq2, e_fne2, e_seq, e_sne, e_ta1, e_ta2, Nat.zero_add, Nat.add_zero, Bool.not_true, Bool.not_false]
        unfold s5_p10
        simp only [e_fd, e_nck, e_pkt, e_pkf, e_gdtt, e_gdtf, e_gdft, e_gdff, e_ift, e_iff, e_not, e_ln, e_lnT, e_cp, e_cvi, e_ex20, e_ex21, e_ex30, e_ex31, e_ex32, e_add, e_sub, e_mul, e_quo, e_rem, e_and, e_or, e_xor, e_shl, e_shr, e_eql, e_neq, e_lss, e_leq, e_gtr, e_geq, e_beq, e_bne, e_peq1, e_peq2, e_pne1, e_pne2, e_zeq1, e_zeq2, e_zne1, e_zne2, e_feq1, e_fne1, e_feq2, e_fne2, e_seq, e_sne, e_ta1, e_ta2, Nat.zero_add, Nat.add_zero, Bool.not_true, Bool.not_false]
        refine ld1_r r10 (v := kv) rfl ?_
        refine has_ok hpl.vs' ?_
        by_cases hin : (k : Int) ∈ keep
        · rw [decide_eq_true hin]
          simp only [e_fd, e_nck, e_pkt, e_pkf, e_gdtt, e_gdtf, e_gdft, e_gdff, e_ift, e_iff, e_not, e_ln, e_lnT, e_cp, e_cvi, e_ex20, e_ex21, e_ex30, e_ex31, e_ex32, e_add, e_sub, e_mul, e_quo, e_rem, e_and, e_or, e_xor, e_shl, e_shr, e_eql, e_neq, e_lss, e_leq, e_gtr, e_geq, e_beq, e_bne, e_peq1, e_peq2, e_pne1, e_pne2, e_zeq1, e_zeq2, e_zne1, e_zne2, e_feq1, e_fne1, e_feq2, e_fne2, e_seq, e_sne, e_ta1, e_ta2, Nat.zero_add, Nat.add_zero, Bool.not_true, Bool.not_false]
          refine ixt hlt ?_
          refine ld1_r h.rt hu ?_
          refine ix_b (n := 12) hlt ?_
          refine st1_r h.ro (by rw [h.vl]; omega) hat0.sc fun w3 r3 hk3 hz3 => ?_
          refine next w3 _ _ _ _ (h.move hlt hgk hu hk3 r3) ?_ (fun i hi e => ⟨updf _ i hi e, updg i hi e⟩) ?_ (hk3.row r10 (fun (q : _ = _) => row_ne r10 h.ro (by decide) q))
          · rw [updk]
            unfold cutF
            rw [hx]
            simp only
            rw [if_neg ht, if_pos hin]
          · exact hpl.tag hk3 (fun b (q : b = oo) => by rw [q]; exact h.of_) (fun b l (q : b = oo) hr => by subst q; exact row_ne hr h.ro (by decide) rfl)
        · rw [decide_eq_false hin]
          simp only [e_fd, e_nck, e_pkt, e_pkf, e_gdtt, e_gdtf, e_gdft, e_gdff, e_ift, e_iff, e_not, e_ln, e_lnT, e_cp, e_cvi, e_ex20, e_ex21, e_ex30, e_ex31, e_ex32, e_add, e_sub, e_mul, e_quo, e_rem, e_and, e_or, e_xor, e_shl, e_shr, e_eql, e_neq, e_lss, e_leq, e_gtr, e_geq, e_beq, e_bne, e_peq1, e_peq2, e_pne1, e_pne2, e_zeq1, e_zeq2, e_zne1, e_zne2, e_feq1, e_fne1, e_feq2, e_fne2, e_seq, e_sne, e_ta1, e_ta2, Nat.zero_add, Nat.add_zero, Bool.not_true, Bool.not_false]
          refine next w vs ob f _ h.drop ?_ (fun i hi e => ⟨rfl, updg i hi e⟩) hpl r10
          rw [hfk]
          unfold cutF
          rw [hx]
          simp only
          rw [if_neg ht, if_neg hin]
  · have hlt' : ¬ (k : Int) < 12 := by omega
    simp only [hlt', decide_false, e_fd, e_nck, e_pkt, e_pkf, e_gdtt, e_gdtf, e_gdft, e_gdff, e_ift, e_iff, e_not, e_ln, e_lnT, e_cp, e_cvi, e_ex20, e_ex21, e_ex30, e_ex31, e_ex32, e_add, e_sub, e_mul, e_quo, e_rem, e_and, e_or, e_xor, e_shl, e_shr, e_eql, e_neq, e_lss, e_leq, e_gtr, e_geq, e_beq, e_bne, e_peq1, e_peq2, e_pne1, e_pne2, e_zeq1, e_zeq2, e_zne1, e_zne2, e_feq1, e_fne1, e_feq2, e_fne2, e_seq, e_sne, e_ta1, e_ta2, Nat.zero_add, Nat.add_zero, Bool.not_true, Bool.not_false]
    have : k = 12 := by omega
    subst this
    exact hK w vs ob f g h (fun i hi => hlow i hi hi)

/-- the flushed sectors -/
theorem flush5 {j : Nat} {t13 : Value} (h : St5 W w d m s oo t5 vs ws ob wb s1.flu s1.fr 0)
    (hK : ∀ w' vs' ob', St5 W w' d m s oo t5 vs' nil12 ob' wb (nowS s1) (fun _ => none) 0 → s5_p15 K B1 (P d 0) (OV oo) (P t5 0) (P t10 0) t13 v (I xs.length) (I j) w') :
    s5_p20 K B1 (P d 0) (OV oo) (P t5 0) (P t10 0) t13 v (I xs.length) (I j) w := by
  unfold s5_p20
  refine ⟨fun n l w' => ∃ (k : Nat) (vs : List Value) (ob : Nat → Nat) (f : Nat → List Int) (g : Nat → Option (List Int)), k ≤ 12 ∧ n = 12 - k ∧ l = [P d 0, OV oo, P t5 0, P t10 0, t13, v, I xs.length, I j, I k] ∧ St5 W w' d m s oo t5 vs ws ob wb f g k ∧ (∀ i, i < 12 → i < k → f i = nowS s1 i) ∧ (∀ i, i < 12 → k ≤ i → f i = s1.flu i ∧ g i = s1.fr i),
    12, ⟨0, vs, ob, _, _, by omega, by omega, rfl, h, fun i _ q => by omega, fun i _ _ => ⟨rfl, rfl⟩⟩, ?_⟩
  clear h
  rintro n l w ⟨k, vs, ob, f, g, hk, rfl, rfl, h, hlow, hup⟩
  rw [s5_p19_Fe]
  unfold s5_p18
  simp only [e_fd, e_nck, e_pkt, e_pkf, e_gdtt, e_gdtf, e_gdft, e_gdff, e_ift, e_iff, e_not, e_ln, e_lnT, e_cp, e_cvi, e_ex20, e_ex21, e_ex30, e_ex31, e_ex32, e_add, e_sub, e_mul, e_quo, e_rem, e_and, e_or, e_xor, e_shl, e_shr, e_eql, e_neq, e_lss, e_leq, e_gtr, e_geq, e_beq, e_bne, e_peq1, e_peq2, e_pne1, e_pne2, e_zeq1, e_zeq2, e_zne1, e_zne2, e_feq1, e_fne1, e_feq2, e_fne2, e_seq, e_sne, e_ta1, e_ta2, Nat.zero_add, Nat.add_zero, Bool.not_true, Bool.not_false]
  by_cases hlt : k < 12
  · have hlt' : (k : Int) < 12 := by omega
    simp only [hlt', decide_true, e_fd, e_nck, e_pkt, e_pkf, e_gdtt, e_gdtf, e_gdft, e_gdff, e_ift, e_iff, e_not, e_ln, e_lnT, e_cp, e_cvi, e_ex20, e_ex21, e_ex30, e_ex31, e_ex32, e_add, e_sub, e_mul, e_quo, e_rem, e_and, e_or, e_xor, e_shl, e_shr, e_eql, e_neq, e_lss, e_leq, e_gtr, e_geq, e_beq, e_bne, e_peq1, e_peq2, e_pne1, e_pne2, e_zeq1, e_zeq2, e_zne1, e_zne2, e_feq1, e_fne1, e_feq2, e_fne2, e_seq, e_sne, e_ta1, e_ta2, Nat.zero_add, Nat.add_zero, Bool.not_true, Bool.not_false]
    obtain ⟨hfk, hgk⟩ := hup k hlt (Nat.le_refl _)
    have next : ∀ w' vs' ob' f' g', St5 W w' d m s oo t5 vs' ws ob' wb f' g' (k + 1) → f' k = nowS s1 k → (∀ i, i < 12 → i ≠ k → f' i = f i ∧ g' i = g i) →
        s5_p17 K B1 (fun l' w' => ∃ n', n' < 12 - k ∧ ∃ (k : Nat) (vs : List Value) (ob : Nat → Nat) (f : Nat → List Int) (g : Nat → Option (List Int)), k ≤ 12 ∧ n' = 12 - k ∧ l' = [P d 0, OV oo, P t5 0, P t10 0, t13, v, I xs.length, I j, I k] ∧ St5 W w' d m s oo t5 vs ws ob wb f g k ∧ (∀ i, i < 12 → i < k → f i = nowS s1 i) ∧ (∀ i, i < 12 → k ≤ i → f i = s1.flu i ∧ g i = s1.fr i))
          (P d 0) (OV oo) (P t5 0) (P t10 0) t13 v (I xs.length) (I j) (I k) w' := by
      intro w' vs' ob' f' g' h' e1 e2
      unfold s5_p17
      simp only [e_fd, e_nck, e_pkt, e_pkf, e_gdtt, e_gdtf, e_gdft, e_gdff, e_ift, e_iff, e_not, e_ln, e_lnT, e_cp, e_cvi, e_ex20, e_ex21, e_ex30, e_ex31, e_ex32, e_add, e_sub, e_mul, e_quo, e_rem, e_and, e_or, e_xor, e_shl, e_shr, e_eql, e_neq, e_lss, e_leq, e_gtr, e_geq, e_beq, e_bne, e_peq1, e_peq2, e_pne1, e_pne2, e_zeq1, e_zeq2, e_zne1, e_zne2, e_feq1, e_fne1, e_feq2, e_fne2, e_seq, e_sne, e_ta1, e_ta2, Nat.zero_add, Nat.add_zero, Bool.not_true, Bool.not_false]
      rw [wrap64_id (by omega) (by omega)]
      refine ⟨12 - (k + 1), by omega, k + 1, vs', ob', f', g', by omega, rfl, by simp, h', fun i hi hik => ?_, fun i hi hik => ?_⟩
      · by_cases e : i = k
        · subst e; exact e1
        · rw [(e2 i hi e).1]; exact hlow i hi (by omega)
      · rw [(e2 i hi (by omega)).1, (e2 i hi (by omega)).2]; exact hup i hi (by omega)
    have updg : ∀ i, i < 12 → i ≠ k → upd g k none i = g i := fun i _ e => by unfold upd; rw [if_neg e]
    have updf : ∀ x, ∀ i, i < 12 → i ≠ k → upd f k x i = f i := fun x i _ e => by unfold upd; rw [if_neg e]
    have updk : ∀ x, upd f k x k = x := fun x => by unfold upd; rw [if_pos rfl]
    refine ixt hlt ?_
    cases hx : s1.fr k with
    | none =>
      rw [hx] at hgk
      refine ld1_r h.rt (h.nil k hlt (Nat.le_refl _) hgk) ?_
      simp only [e_fd, e_nck, e_pkt, e_pkf, e_gdtt, e_gdtf, e_gdft, e_gdff, e_ift, e_iff, e_not, e_ln, e_lnT, e_cp, e_cvi, e_ex20, e_ex21, e_ex30, e_ex31, e_ex32, e_add, e_sub, e_mul, e_quo, e_rem, e_and, e_or, e_xor, e_shl, e_shr, e_eql, e_neq, e_lss, e_leq, e_gtr, e_geq, e_beq, e_bne, e_peq1, e_peq2, e_pne1, e_pne2, e_zeq1, e_zeq2, e_zne1, e_zne2, e_feq1, e_fne1, e_feq2, e_fne2, e_seq, e_sne, e_ta1, e_ta2, Nat.zero_add, Nat.add_zero, Bool.not_true, Bool.not_false]
      exact next w vs ob f _ h.drop (by rw [hfk]; unfold nowS; rw [hx]; rfl) (fun i hi e => ⟨rfl, updg i hi e⟩)
    | some x =>
      rw [hx] at hgk
      obtain ⟨u, hu, hat⟩ := h.wri k hlt x hgk
      refine ld1_r h.rt hu ?_
      have hat0 := hat
      obtain ⟨capw, junkw, eu, hcw, rw_, hxl⟩ := hat
      rw [eu]
      simp only [e_fd, e_nck, e_pkt, e_pkf, e_gdtt, e_gdtf, e_gdft, e_gdff, e_ift, e_iff, e_not, e_ln, e_lnT, e_cp, e_cvi, e_ex20, e_ex21, e_ex30, e_ex31, e_ex32, e_add, e_sub, e_mul, e_quo, e_rem, e_and, e_or, e_xor, e_shl, e_shr, e_eql, e_neq, e_lss, e_leq, e_gtr, e_geq, e_beq, e_bne, e_peq1, e_peq2, e_pne1, e_pne2, e_zeq1, e_zeq2, e_zne1, e_zne2, e_feq1, e_fne1, e_feq2, e_fne2, e_seq, e_sne, e_ta1, e_ta2, Nat.zero_add, Nat.add_zero, Bool.not_true, Bool.not_false]
      refine ixt hlt ?_
      refine ld1_r h.rt hu ?_
      refine ix_b (n := 12) hlt ?_
      refine st1_r h.ro (by rw [h.vl]; omega) hat0.sc fun w3 r3 hk3 hz3 => ?_
      refine next w3 _ _ _ _ (h.move hlt hgk hu hk3 r3) ?_ (fun i hi e => ⟨updf _ i hi e, updg i hi e⟩)
      rw [updk]; unfold nowS; rw [hx]; rfl
  · have hlt' : ¬ (k : Int) < 12 := by omega
    simp only [hlt', decide_false, e_fd, e_nck, e_pkt, e_pkf, e_gdtt, e_gdtf, e_gdft, e_gdff, e_ift, e_iff, e_not, e_ln, e_lnT, e_cp, e_cvi, e_ex20, e_ex21, e_ex30, e_ex31, e_ex32, e_add, e_sub, e_mul, e_quo, e_rem, e_and, e_or, e_xor, e_shl, e_shr, e_eql, e_neq, e_lss, e_leq, e_gtr, e_geq, e_beq, e_bne, e_peq1, e_peq2, e_pne1, e_pne2, e_zeq1, e_zeq2, e_zne1, e_zne2, e_feq1, e_fne1, e_feq2, e_fne2, e_seq, e_sne, e_ta1, e_ta2, Nat.zero_add, Nat.add_zero, Bool.not_true, Bool.not_false]
    unfold s5_p16
    refine bdq_r (l := nil12) rfl ?_
    refine stn_r h.rt rfl (show 0 + 12 ≤ ws.length by rw [h.wl]; decide) rfl fun w1 r1 hk1 hz1 => ?_
    have r1' : Row w1 t5 48 nil12 := by
      have : ws.drop (0 + 12) = [] := List.drop_of_length_le (by rw [h.wl]; omega)
      rw [this, List.append_nil] at r1
      exact r1
    exact hK w1 vs ob ((h.clear hk1 r1').congr (fun i hi => hlow i hi (by omega)) (fun _ _ => rfl))

theorem p15_ok {j : Nat} {cr : Bool} (hj : j < xs.length) (hl : xs.length ≤ 65536) (h : St5 W w d m s oo t5 vs ws ob wb s1.flu s1.fr 0) (hpl : Pl W w d m kv keep) (r10 : Row w t10 32 [kv, I torn, I at_])
    (h0 : cr = false → (∀ i, i < 12 → s1.flu i = s.flu i) ∧ ∀ i, i < 12 → s1.fr i = s.fr i) (h1 : cr = true → s.off = true ∧ s.fr = (fun _ => none) ∧ ∀ i, i < 12 → s.flu i = cutF s1 keep torn at_ i) :
    s5_p15 (K5 W) (B5 W d oo t5 v xs j) (P d 0) (OV oo) (P t5 0) (P t10 0) (.bool cr) v (I xs.length) (I j) w := by
  unfold s5_p15
  cases cr with
  | false =>
    simp only [Bool.not_false, e_fd, e_nck, e_pkt, e_pkf, e_gdtt, e_gdtf, e_gdft, e_gdff, e_ift, e_iff, e_not, e_ln, e_lnT, e_cp, e_cvi, e_ex20, e_ex21, e_ex30, e_ex31, e_ex32, e_add, e_sub, e_mul, e_quo, e_rem, e_and, e_or, e_xor, e_shl, e_shr, e_eql, e_neq, e_lss, e_leq, e_gtr, e_geq, e_beq, e_bne, e_peq1, e_peq2, e_pne1, e_pne2, e_zeq1, e_zeq2, e_zne1, e_zne2, e_feq1, e_fne1, e_feq2, e_fne2, e_seq, e_sne, e_ta1, e_ta2, Nat.zero_add, Nat.add_zero, Bool.not_true, Bool.not_false]
    obtain ⟨e1, e2⟩ := h0 rfl
    exact next5 hj hl (h.congr e1 e2)
  | true =>
    simp only [Bool.not_true, e_fd, e_nck, e_pkt, e_pkf, e_gdtt, e_gdtf, e_gdft, e_gdff, e_ift, e_iff, e_not, e_ln, e_lnT, e_cp, e_cvi, e_ex20, e_ex21, e_ex30, e_ex31, e_ex32, e_add, e_sub, e_mul, e_quo, e_rem, e_and, e_or, e_xor, e_shl, e_shr, e_eql, e_neq, e_lss, e_leq, e_gtr, e_geq, e_beq, e_bne, e_peq1, e_peq2, e_pne1, e_pne2, e_zeq1, e_zeq2, e_zne1, e_zne2, e_feq1, e_fne1, e_feq2, e_fne2, e_seq, e_sne, e_ta1, e_ta2, Nat.zero_add, Nat.add_zero, Bool.not_true, Bool.not_false]
    obtain ⟨e1, e2, e3⟩ := h1 rfl
    refine crash5 h hpl r10 fun w' vs' ob' f' g' h' hf' => ?_
    exact tail5 hj hl h' (fun i hi => by rw [hf' i hi, e3 i hi]) e2 e1

theorem p22_ok {j : Nat} {cr : Bool} {code : Int} {op : Op} {dv kvo : Value} (hj : j < xs.length) (hl : xs.length ≤ 65536) (h : St5 W w d m s oo t5 vs ws ob wb s1.flu s1.fr 0) (hpl : Pl W w d m kv keep) (r10 : Row w t10 32 [kv, I torn, I at_]) (r7 : Row w t7 34 (opc dv kvo op))
    (hf : op.kind = 2 ∧ code = 0 → cr = false ∧ s.fr = (fun _ => none) ∧ s.flu = nowS s1) (h0 : cr = false → ¬ (op.kind = 2 ∧ code = 0) → s1.flu = s.flu ∧ s1.fr = s.fr)
    (h1 : cr = true → s.off = true ∧ s.fr = (fun _ => none) ∧ s.flu = cutF s1 keep torn at_) :
    s5_p22 (K5 W) (B5 W d oo t5 v xs j) (P d 0) (OV oo) (P t5 0) (P t7 0) (P t10 0) (I code) (.bool cr) v (I xs.length) (I j) w := by
  have no : ¬ (op.kind = 2 ∧ code = 0) → s5_p15 (K5 W) (B5 W d oo t5 v xs j) (P d 0) (OV oo) (P t5 0) (P t10 0) (.bool cr) v (I xs.length) (I j) w := fun hn =>
    p15_ok hj hl h hpl r10 (fun e => by obtain ⟨a, b⟩ := h0 e hn; rw [a, b]; exact ⟨fun _ _ => rfl, fun _ _ => rfl⟩) (fun e => by obtain ⟨a, b, c⟩ := h1 e; exact ⟨a, b, fun i _ => by rw [c]⟩)
  unfold s5_p22
  simp only [e_fd, e_nck, e_pkt, e_pkf, e_gdtt, e_gdtf, e_gdft, e_gdff, e_ift, e_iff, e_not, e_ln, e_lnT, e_cp, e_cvi, e_ex20, e_ex21, e_ex30, e_ex31, e_ex32, e_add, e_sub, e_mul, e_quo, e_rem, e_and, e_or, e_xor, e_shl, e_shr, e_eql, e_neq, e_lss, e_leq, e_gtr, e_geq, e_beq, e_bne, e_peq1, e_peq2, e_pne1, e_pne2, e_zeq1, e_zeq2, e_zne1, e_zne2, e_feq1, e_fne1, e_feq2, e_fne2, e_seq, e_sne, e_ta1, e_ta2, Nat.zero_add, Nat.add_zero, Bool.not_true, Bool.not_false]
  refine ld1_r r7 (v := I op.kind) rfl ?_
  simp only [e_fd, e_nck, e_pkt, e_pkf, e_gdtt, e_gdtf, e_gdft, e_gdff, e_ift, e_iff, e_not, e_ln, e_lnT, e_cp, e_cvi, e_ex20, e_ex21, e_ex30, e_ex31, e_ex32, e_add, e_sub, e_mul, e_quo, e_rem, e_and, e_or, e_xor, e_shl, e_shr, e_eql, e_neq, e_lss, e_leq, e_gtr, e_geq, e_beq, e_bne, e_peq1, e_peq2, e_pne1, e_pne2, e_zeq1, e_zeq2, e_zne1, e_zne2, e_feq1, e_fne1, e_feq2, e_fne2, e_seq, e_sne, e_ta1, e_ta2, Nat.zero_add, Nat.add_zero, Bool.not_true, Bool.not_false]
  by_cases k2 : op.kind = 2
  · have e : (op.kind == 2) = true := by simpa using k2
    simp only [e, e_fd, e_nck, e_pkt, e_pkf, e_gdtt, e_gdtf, e_gdft, e_gdff, e_ift, e_iff, e_not, e_ln, e_lnT, e_cp, e_cvi, e_ex20, e_ex21, e_ex30, e_ex31, e_ex32, e_add, e_sub, e_mul, e_quo, e_rem, e_and, e_or, e_xor, e_shl, e_shr, e_eql, e_neq, e_lss, e_leq, e_gtr, e_geq, e_beq, e_bne, e_peq1, e_peq2, e_pne1, e_pne2, e_zeq1, e_zeq2, e_zne1, e_zne2, e_feq1, e_fne1, e_feq2, e_fne2, e_seq, e_sne, e_ta1, e_ta2, Nat.zero_add, Nat.add_zero, Bool.not_true, Bool.not_false]
    unfold s5_p21
    by_cases hc : code = 0
    · have e : (code == 0) = true := by simpa using hc
      simp only [e, e_fd, e_nck, e_pkt, e_pkf, e_gdtt, e_gdtf, e_gdft, e_gdff, e_ift, e_iff, e_not, e_ln, e_lnT, e_cp, e_cvi, e_ex20, e_ex21, e_ex30, e_ex31, e_ex32, e_add, e_sub, e_mul, e_quo, e_rem, e_and, e_or, e_xor, e_shl, e_shr, e_eql, e_neq, e_lss, e_leq, e_gtr, e_geq, e_beq, e_bne, e_peq1, e_peq2, e_pne1, e_pne2, e_zeq1, e_zeq2, e_zne1, e_zne2, e_feq1, e_fne1, e_feq2, e_fne2, e_seq, e_sne, e_ta1, e_ta2, Nat.zero_add, Nat.add_zero, Bool.not_true, Bool.not_false]
      obtain ⟨a, b, c⟩ := hf ⟨k2, hc⟩
      subst a
      have rt10 : t10 ≠ t5 ∧ t10 ≠ oo := ⟨row_ne r10 h.rt (by decide), row_ne r10 h.ro (by decide)⟩
      refine flush5 h fun w' vs' ob' h' => ?_
      unfold s5_p15
      simp only [Bool.not_false, e_fd, e_nck, e_pkt, e_pkf, e_gdtt, e_gdtf, e_gdft, e_gdff, e_ift, e_iff, e_not, e_ln, e_lnT, e_cp, e_cvi, e_ex20, e_ex21, e_ex30, e_ex31, e_ex32, e_add, e_sub, e_mul, e_quo, e_rem, e_and, e_or, e_xor, e_shl, e_shr, e_eql, e_neq, e_lss, e_leq, e_gtr, e_geq, e_beq, e_bne, e_peq1, e_peq2, e_pne1, e_pne2, e_zeq1, e_zeq2, e_zne1, e_zne2, e_feq1, e_fne1, e_feq2, e_fne2, e_seq, e_sne, e_ta1, e_ta2, Nat.zero_add, Nat.add_zero, Bool.not_true, Bool.not_false]
      exact next5 hj hl (h'.congr (fun i _ => by rw [c]) (fun i _ => by rw [b]))
    · have e : (code == 0) = false := by simpa using hc
      simp only [e, e_fd, e_nck, e_pkt, e_pkf, e_gdtt, e_gdtf, e_gdft, e_gdff, e_ift, e_iff, e_not, e_ln, e_lnT, e_cp, e_cvi, e_ex20, e_ex21, e_ex30, e_ex31, e_ex32, e_add, e_sub, e_mul, e_quo, e_rem, e_and, e_or, e_xor, e_shl, e_shr, e_eql, e_neq, e_lss, e_leq, e_gtr, e_geq, e_beq, e_bne, e_peq1, e_peq2, e_pne1, e_pne2, e_zeq1, e_zeq2, e_zne1, e_zne2, e_feq1, e_fne1, e_feq2, e_fne2, e_seq, e_sne, e_ta1, e_ta2, Nat.zero_add, Nat.add_zero, Bool.not_true, Bool.not_false]
      exact no (fun q => hc q.2)
  · have e : (op.kind == 2) = false := by simpa using k2
    simp only [e, e_fd, e_nck, e_pkt, e_pkf, e_gdtt, e_gdtf, e_gdft, e_gdff, e_ift, e_iff, e_not, e_ln, e_lnT, e_cp, e_cvi, e_ex20, e_ex21, e_ex30, e_ex31, e_ex32, e_add, e_sub, e_mul, e_quo, e_rem, e_and, e_or, e_xor, e_shl, e_shr, e_eql, e_neq, e_lss, e_leq, e_gtr, e_geq, e_beq, e_bne, e_peq1, e_peq2, e_pne1, e_pne2, e_zeq1, e_zeq2, e_zne1, e_zne2, e_feq1, e_fne1, e_feq2, e_fne2, e_seq, e_sne, e_ta1, e_ta2, Nat.zero_add, Nat.add_zero, Bool.not_true, Bool.not_false]
    unfold s5_p21
    simp only [e_fd, e_nck, e_pkt, e_pkf, e_gdtt, e_gdtf, e_gdft, e_gdff, e_ift, e_iff, e_not, e_ln, e_lnT, e_cp, e_cvi, e_ex20, e_ex21, e_ex30, e_ex31, e_ex32, e_add, e_sub, e_mul, e_quo, e_rem, e_and, e_or, e_xor, e_shl, e_shr, e_eql, e_neq, e_lss, e_leq, e_gtr, e_geq, e_beq, e_bne, e_peq1, e_peq2, e_pne1, e_pne2, e_zeq1, e_zeq2, e_zne1, e_zne2, e_feq1, e_fne1, e_feq2, e_fne2, e_seq, e_sne, e_ta1, e_ta2, Nat.zero_add, Nat.add_zero, Bool.not_true, Bool.not_false]
    exact no (fun q => k2 q.1)

def crB (s : DS) (op : Op) : Bool := (playS s op).2.2.off && !s.off
def wrB (s : DS) (op : Op) : Bool := (op.kind == 0) && (((playS s op).1 == 0) || crB s op)
def frX (s : DS) (op : Op) : Nat → Option (List Int) := if wrB s op = true then upd s.fr op.sec.toNat (some op.data) else s.fr

theorem facts5 (s : DS) (op : Op) :
    (wrB s op = true → 0 ≤ op.sec ∧ op.sec < 12 ∧ op.data.length = 16) ∧
    (op.kind = 2 ∧ (playS s op).1 = 0 → crB s op = false ∧ (playS s op).2.2.fr = (fun _ => none) ∧ (playS s op).2.2.flu = nowS { s with fr := frX s op }) ∧
    (crB s op = false → ¬ (op.kind = 2 ∧ (playS s op).1 = 0) → s.flu = (playS s op).2.2.flu ∧ frX s op = (playS s op).2.2.fr) ∧
    (crB s op = true → (playS s op).2.2.off = true ∧ (playS s op).2.2.fr = (fun _ => none) ∧ (playS s op).2.2.flu = (if op.kind = 3 then cutF { s with fr := frX s op } op.keep op.torn op.at_ else cutF { s with fr := frX s op } s.keep s.torn s.at_)) := by
  have hcr : crB s op = true ↔ (s.off = false ∧ (playS s op).2.2.off = true) := by unfold crB; simp; exact And.comm
  have hcr' : crB s op = false ↔ ¬ (s.off = false ∧ (playS s op).2.2.off = true) := by rw [← hcr]; simp
  have hwr : wrB s op = true ↔ (op.kind = 0 ∧ ((playS s op).1 = 0 ∨ crB s op = true)) := by unfold wrB; simp
  have hx1 : wrB s op = true → frX s op = upd s.fr op.sec.toNat (some op.data) := fun h => by unfold frX; rw [if_pos h]
  have hx0 : ¬ wrB s op = true → frX s op = s.fr := fun h => by unfold frX; rw [if_neg h]
  rcases play_cases s op with ⟨c, k, o, h1, h2, h3, o', e1, e2⟩ | ⟨c, k, o, o', e1, e2⟩ | ⟨o, k0, k2, e1, e2, c⟩ | ⟨k, o, o', e1, e2, c⟩ | ⟨e, c⟩ | ⟨o, o', k, kd, k3, k3', e1, e2⟩
  · have hw : wrB s op = true := hwr.2 ⟨k, .inl c⟩
    refine ⟨fun _ => ⟨h1, h2, h3⟩, fun q => by omega, fun _ _ => ⟨e1.symm, by rw [hx1 hw, e2]⟩, fun q => ?_⟩
    rw [hcr, o'] at q; cases q.2
  · have hw : ¬ wrB s op = true := fun q => by have := (hwr.1 q).1; omega
    refine ⟨fun q => absurd q hw, fun _ => ⟨hcr'.2 (fun q => by rw [o'] at q; cases q.2), e2, ?_⟩, fun _ q => absurd ⟨k, c⟩ q, fun q => ?_⟩
    · rw [e1, hx0 hw]
    · rw [hcr, o'] at q; cases q.2
  · have hw : ¬ wrB s op = true := fun q => k0 (hwr.1 q).1
    refine ⟨fun q => absurd q hw, fun q => absurd q.1 k2, fun _ _ => ⟨e1.symm, by rw [hx0 hw, e2]⟩, fun q => ?_⟩
    rw [hcr, o] at q; rw [q.1] at q; cases q.2
  · have hw : ¬ wrB s op = true := fun q => by have := (hwr.1 q).1; omega
    refine ⟨fun q => absurd q hw, fun q => by omega, fun _ _ => ⟨e1.symm, by rw [hx0 hw, e2]⟩, fun q => ?_⟩
    rw [hcr, o'] at q; cases q.2
  · have hn : crB s op = false := hcr'.2 (fun q => by rw [e] at q; rw [q.1] at q; cases q.2)
    have hw : ¬ wrB s op = true := fun q => (hwr.1 q).2.elim c (fun q => by rw [hn] at q; cases q)
    refine ⟨fun q => absurd q hw, fun q => absurd q.2 c, fun _ _ => ⟨by rw [e], by rw [hx0 hw, e]⟩, fun q => ?_⟩
    rw [hn] at q; cases q
  · have hc : crB s op = true := hcr.2 ⟨o, o'⟩
    have hfx : frX s op = frW s op := by
      unfold frW
      by_cases k0 : op.kind = 0
      · rw [if_pos k0]; exact hx1 (hwr.2 ⟨k0, .inr hc⟩)
      · rw [if_neg k0]; exact hx0 (fun q => k0 (hwr.1 q).1)
    refine ⟨fun q => kd (hwr.1 q).1, fun q => ?_, fun q => ?_, fun _ => ⟨o', e2, by rw [hfx]; exact e1⟩⟩
    · have := k3 (by omega); omega
    · rw [hc] at q; cases q

theorem p24_ok {j : Nat} {op : Op} {dv kvo : Value} (hj : j < xs.length) (hl : xs.length ≤ 65536) (hdl : op.data.length ≤ 65536) (h : St5 W w d m (playS s op).2.2 oo t5 vs ws ob wb s.flu s.fr 0) (hpl : Pl W w d m kv keep) (r10 : Row w t10 32 [kv, I torn, I at_]) (r7 : Row w t7 34 (opc dv kvo op)) (hdv : Vs U8 w dv op.data)
    (hplan : (if op.kind = 3 then cutF { s with fr := frX s op } op.keep op.torn op.at_ else cutF { s with fr := frX s op } s.keep s.torn s.at_) = cutF { s with fr := frX s op } keep torn at_) :
    s5_p24 (K5 W) (B5 W d oo t5 v xs j) (P d 0) (OV oo) (P t5 0) (P t7 0) (P t10 0) (I (playS s op).1) (.bool (crB s op)) v (I xs.length) (I j) (.bool (wrB s op)) w := by
  obtain ⟨f1, f2, f3, f4⟩ := facts5 s op
  rw [hplan] at f4
  unfold s5_p24
  have fin : ∀ w' ws' wb', St5 W w' d m (playS s op).2.2 oo t5 vs ws' ob wb' s.flu (frX s op) 0 → Pl W w' d m kv keep → Row w' t10 32 [kv, I torn, I at_] → Row w' t7 34 (opc dv kvo op) →
      s5_p22 (K5 W) (B5 W d oo t5 v xs j) (P d 0) (OV oo) (P t5 0) (P t7 0) (P t10 0) (I (playS s op).1) (.bool (crB s op)) v (I xs.length) (I j) w' := fun w' ws' wb' h' hp' r10' r7' =>
    p22_ok (s1 := { s with fr := frX s op }) hj hl h' hp' r10' r7' f2 (fun a b => f3 a b) f4
  cases hw : wrB s op with
  | false =>
    simp only [e_fd, e_nck, e_pkt, e_pkf, e_gdtt, e_gdtf, e_gdft, e_gdff, e_ift, e_iff, e_not, e_ln, e_lnT, e_cp, e_cvi, e_ex20, e_ex21, e_ex30, e_ex31, e_ex32, e_add, e_sub, e_mul, e_quo, e_rem, e_and, e_or, e_xor, e_shl, e_shr, e_eql, e_neq, e_lss, e_leq, e_gtr, e_geq, e_beq, e_bne, e_peq1, e_peq2, e_pne1, e_pne2, e_zeq1, e_zeq2, e_zne1, e_zne2, e_feq1, e_fne1, e_feq2, e_fne2, e_seq, e_sne, e_ta1, e_ta2, Nat.zero_add, Nat.add_zero, Bool.not_true, Bool.not_false]
    have e : frX s op = s.fr := by unfold frX; rw [hw, if_neg (by decide)]
    refine fin w ws wb (by rw [e]; exact h) hpl r10 r7
  | true =>
    simp only [e_fd, e_nck, e_pkt, e_pkf, e_gdtt, e_gdtf, e_gdft, e_gdff, e_ift, e_iff, e_not, e_ln, e_lnT, e_cp, e_cvi, e_ex20, e_ex21, e_ex30, e_ex31, e_ex32, e_add, e_sub, e_mul, e_quo, e_rem, e_and, e_or, e_xor, e_shl, e_shr, e_eql, e_neq, e_lss, e_leq, e_gtr, e_geq, e_beq, e_bne, e_peq1, e_peq2, e_pne1, e_pne2, e_zeq1, e_zeq2, e_zne1, e_zne2, e_feq1, e_fne1, e_feq2, e_fne2, e_seq, e_sne, e_ta1, e_ta2, Nat.zero_add, Nat.add_zero, Bool.not_true, Bool.not_false]
    have e : frX s op = upd s.fr op.sec.toNat (some op.data) := by unfold frX; rw [hw, if_pos rfl]
    obtain ⟨h0, h12, h16⟩ := f1 hw
    obtain ⟨k, hk⟩ : ∃ k : Nat, op.sec = (k : Int) := ⟨op.sec.toNat, by omega⟩
    have hkn : op.sec.toNat = k := by omega
    rw [hkn] at e
    unfold s5_p23 s5_p23_d
    simp only [e_fd, e_nck, e_pkt, e_pkf, e_gdtt, e_gdtf, e_gdft, e_gdff, e_ift, e_iff, e_not, e_ln, e_lnT, e_cp, e_cvi, e_ex20, e_ex21, e_ex30, e_ex31, e_ex32, e_add, e_sub, e_mul, e_quo, e_rem, e_and, e_or, e_xor, e_shl, e_shr, e_eql, e_neq, e_lss, e_leq, e_gtr, e_geq, e_beq, e_bne, e_peq1, e_peq2, e_pne1, e_pne2, e_zeq1, e_zeq2, e_zne1, e_zne2, e_feq1, e_fne1, e_feq2, e_fne2, e_seq, e_sne, e_ta1, e_ta2, Nat.zero_add, Nat.add_zero, Bool.not_true, Bool.not_false]
    have hd := h.kp' (w' := drw w) kp_drw
    refine ld1_r r7.drw (v := I op.sec) rfl ?_
    refine ld1_r r7.drw (v := dv) rfl ?_
    rw [hk]
    refine ixt (by omega) ?_
    refine copyBytes_ok (hdv.kp' kp_drw) hdl fun w3 cb cap junk hcap hcb r3 hk3 => ⟨hk3.below', ?_⟩
    have h3 := hd.kp' hk3
    refine st1_r h3.rt (by rw [h3.wl]; omega) rfl fun w4 r4 hk4 hz4 => ?_
    have hcb' : w.heap.size ≤ cb := hcb
    have n1 : ¬ Own d m cb := fun q => by have := h.base.dk.lt q; omega
    have h4 := h3.put (k := k) (cb := cb) (x := op.data) (by omega) ⟨cap, junk, by rw [h16], by omega, r3, h16⟩ (fun i hi q => by obtain ⟨u, _, a⟩ := h.old i hi; have := a.lt; omega) (fun i hi hg q => by
      cases hx : s.fr i with
      | none => exact hg hx
      | some y => obtain ⟨u, _, a⟩ := h.wri i hi y hx; have := a.lt; omega) n1 (by have := h.base.bel.size; omega) hk4 r4
    rw [← e] at h4
    refine fin w4 _ _ h4 ?_ (hk4.row (hk3.row' r10.drw) (fun (q : _ = _) => row_ne r10 h.rt (by decide) q)) (hk4.row (hk3.row' r7.drw) (fun (q : _ = _) => row_ne r7 h.rt (by decide) q))
    refine ((hpl.kp' (w' := drw w) kp_drw).kp' hk3).tag hk4 (fun b (q : b = t5) => by rw [q]; exact h.tf) (fun b l (q : b = t5) hr => by subst q; exact row_ne hr h3.rt (by decide) rfl)

theorem p25b {j : Nat} {op : Op} {dv kvo t11 : Value} {code : Int} {cr : Bool} (r7 : Row w t7 34 (opc dv kvo op))
    (h : s5_p24 K B1 (P d 0) (OV oo) (P t5 0) (P t7 0) (P t10 0) (I code) (.bool cr) v (I xs.length) (I j) (.bool ((op.kind == 0) && ((code == 0) || cr))) w) :
    fd 0 (P t7 0) (fun t54 w =>
    ld1 t54 (fun t55 w =>
    boI .eql t55 (.int .i64 0) (fun t56 w =>
    gd t56 true (fun K w => K (I code) w) (fun t58 w =>
    gd t56 true (boI .eql t58 (.int .i64 0)) (fun t59 w =>
    gd t56 true (fun K w => K t59 w) (fun t60 w =>
    gd t60 false (fun K w => K (.bool cr) w) (fun t61 w =>
    gd t56 true (pk t60 (.bool true) t61) (fun t62 w =>
    pk t56 t62 (.bool false) (fun t63 w =>
    s5_p24 K B1 (P d 0) (OV oo) (P t5 0) (P t7 0) (P t10 0) (I code) (.bool cr) v (I xs.length) (I j) t63 w) w) w) w) w) w) w) w) w) w := by
  simp only [e_fd, e_nck, e_pkt, e_pkf, e_gdtt, e_gdtf, e_gdft, e_gdff, e_ift, e_iff, e_not, e_ln, e_lnT, e_cp, e_cvi, e_ex20, e_ex21, e_ex30, e_ex31, e_ex32, e_add, e_sub, e_mul, e_quo, e_rem, e_and, e_or, e_xor, e_shl, e_shr, e_eql, e_neq, e_lss, e_leq, e_gtr, e_geq, e_beq, e_bne, e_peq1, e_peq2, e_pne1, e_pne2, e_zeq1, e_zeq2, e_zne1, e_zne2, e_feq1, e_fne1, e_feq2, e_fne2, e_seq, e_sne, e_ta1, e_ta2, Nat.zero_add, Nat.add_zero, Bool.not_true, Bool.not_false]
  refine ld1_r r7 (v := I op.kind) rfl ?_
  simp only [e_fd, e_nck, e_pkt, e_pkf, e_gdtt, e_gdtf, e_gdft, e_gdff, e_ift, e_iff, e_not, e_ln, e_lnT, e_cp, e_cvi, e_ex20, e_ex21, e_ex30, e_ex31, e_ex32, e_add, e_sub, e_mul, e_quo, e_rem, e_and, e_or, e_xor, e_shl, e_shr, e_eql, e_neq, e_lss, e_leq, e_gtr, e_geq, e_beq, e_bne, e_peq1, e_peq2, e_pne1, e_pne2, e_zeq1, e_zeq2, e_zne1, e_zne2, e_feq1, e_fne1, e_feq2, e_fne2, e_seq, e_sne, e_ta1, e_ta2, Nat.zero_add, Nat.add_zero, Bool.not_true, Bool.not_false]
  cases hk : (op.kind == 0) with
  | false =>
    rw [hk] at h
    simp only [e_gdu, e_fd, e_nck, e_pkt, e_pkf, e_gdtt, e_gdtf, e_gdft, e_gdff, e_ift, e_iff, e_not, e_ln, e_lnT, e_cp, e_cvi, e_ex20, e_ex21, e_ex30, e_ex31, e_ex32, e_add, e_sub, e_mul, e_quo, e_rem, e_and, e_or, e_xor, e_shl, e_shr, e_eql, e_neq, e_lss, e_leq, e_gtr, e_geq, e_beq, e_bne, e_peq1, e_peq2, e_pne1, e_pne2, e_zeq1, e_zeq2, e_zne1, e_zne2, e_feq1, e_fne1, e_feq2, e_fne2, e_seq, e_sne, e_ta1, e_ta2, Nat.zero_add, Nat.add_zero, Bool.not_true, Bool.not_false]
    exact h
  | true =>
    rw [hk] at h
    simp only [e_fd, e_nck, e_pkt, e_pkf, e_gdtt, e_gdtf, e_gdft, e_gdff, e_ift, e_iff, e_not, e_ln, e_lnT, e_cp, e_cvi, e_ex20, e_ex21, e_ex30, e_ex31, e_ex32, e_add, e_sub, e_mul, e_quo, e_rem, e_and, e_or, e_xor, e_shl, e_shr, e_eql, e_neq, e_lss, e_leq, e_gtr, e_geq, e_beq, e_bne, e_peq1, e_peq2, e_pne1, e_pne2, e_zeq1, e_zeq2, e_zne1, e_zne2, e_feq1, e_fne1, e_feq2, e_fne2, e_seq, e_sne, e_ta1, e_ta2, Nat.zero_add, Nat.add_zero, Bool.not_true, Bool.not_false]
    cases hc : (code == 0) with
    | false =>
      rw [hc] at h
      simp only [e_fd, e_nck, e_pkt, e_pkf, e_gdtt, e_gdtf, e_gdft, e_gdff, e_ift, e_iff, e_not, e_ln, e_lnT, e_cp, e_cvi, e_ex20, e_ex21, e_ex30, e_ex31, e_ex32, e_add, e_sub, e_mul, e_quo, e_rem, e_and, e_or, e_xor, e_shl, e_shr, e_eql, e_neq, e_lss, e_leq, e_gtr, e_geq, e_beq, e_bne, e_peq1, e_peq2, e_pne1, e_pne2, e_zeq1, e_zeq2, e_zne1, e_zne2, e_feq1, e_fne1, e_feq2, e_fne2, e_seq, e_sne, e_ta1, e_ta2, Nat.zero_add, Nat.add_zero, Bool.not_true, Bool.not_false]
      exact h
    | true =>
      rw [hc] at h
      simp only [e_fd, e_nck, e_pkt, e_pkf, e_gdtt, e_gdtf, e_gdft, e_gdff, e_ift, e_iff, e_not, e_ln, e_lnT, e_cp, e_cvi, e_ex20, e_ex21, e_ex30, e_ex31, e_ex32, e_add, e_sub, e_mul, e_quo, e_rem, e_and, e_or, e_xor, e_shl, e_shr, e_eql, e_neq, e_lss, e_leq, e_gtr, e_geq, e_beq, e_bne, e_peq1, e_peq2, e_pne1, e_pne2, e_zeq1, e_zeq2, e_zne1, e_zne2, e_feq1, e_fne1, e_feq2, e_fne2, e_seq, e_sne, e_ta1, e_ta2, Nat.zero_add, Nat.add_zero, Bool.not_true, Bool.not_false]
      exact h

theorem p25_ok {j : Nat} {op : Op} {dv kvo : Value} (hj : j < xs.length) (hl : xs.length ≤ 65536) (hdl : op.data.length ≤ 65536) (h : St5 W w d m s oo t5 vs ws ob wb s.flu s.fr 0) (hpl : Pl W w d m kv keep) (r10 : Row w t10 32 [kv, I torn, I at_]) (r7 : Row w t7 34 (opc dv kvo op)) (hdv : Vs U8 w dv op.data) (hov : OpV w W.heap.size (.agg (opc dv kvo op).toArray) op)
    (hplan : (if op.kind = 3 then cutF { s with fr := frX s op } op.keep op.torn op.at_ else cutF { s with fr := frX s op } s.keep s.torn s.at_) = cutF { s with fr := frX s op } keep torn at_) :
    s5_p25 (K5 W) (B5 W d oo t5 v xs j) (P d 0) (OV oo) (P t5 0) (P t7 0) (.bool s.off) (P t10 0) v (I xs.length) (I j) w := by
  unfold s5_p25
  refine ldn_r r7 (show 0 + 8 ≤ 8 by decide) ?_
  refine h.base.play hov fun w2 m2 bv hb2 st2 hbv => ?_
  have h2 := h.stp hb2 st2
  have hpl2 := hpl.stp st2 h.base.far
  have r10' := st2.kp.row r10 (h.base.dk.ntag r10 (by decide))
  have r7' := st2.kp.row r7 (h.base.dk.ntag r7 (by decide))
  have hdv2 : Vs U8 w2 dv op.data := hov.data st2.kp (fun b q => h.base.far b q) hdv
  have fin := p24_ok (v := v) hj hl hdl h2 hpl2 r10' r7' hdv2 hplan
  simp only [e_fd, e_nck, e_pkt, e_pkf, e_gdtt, e_gdtf, e_gdft, e_gdff, e_ift, e_iff, e_not, e_ln, e_lnT, e_cp, e_cvi, e_ex20, e_ex21, e_ex30, e_ex31, e_ex32, e_add, e_sub, e_mul, e_quo, e_rem, e_and, e_or, e_xor, e_shl, e_shr, e_eql, e_neq, e_lss, e_leq, e_gtr, e_geq, e_beq, e_bne, e_peq1, e_peq2, e_pne1, e_pne2, e_zeq1, e_zeq2, e_zne1, e_zne2, e_feq1, e_fne1, e_feq2, e_fne2, e_seq, e_sne, e_ta1, e_ta2, Nat.zero_add, Nat.add_zero, Bool.not_true, Bool.not_false]
  refine offline_ok hb2.dk ?_
  have fin2 := p25b (K := K5 W) (B1 := B5 W d oo t5 v xs j) (t11 := nilS) (cr := crB s op) (code := (playS s op).1) (d := d) (oo := oo) (t5 := t5) (t10 := t10) (v := v) (xs := xs) (j := j) r7' fin
  simp only [e_fd, e_nck, e_pkt, e_pkf, e_gdtt, e_gdtf, e_gdft, e_gdff, e_ift, e_iff, e_not, e_ln, e_lnT, e_cp, e_cvi, e_ex20, e_ex21, e_ex30, e_ex31, e_ex32, e_add, e_sub, e_mul, e_quo, e_rem, e_and, e_or, e_xor, e_shl, e_shr, e_eql, e_neq, e_lss, e_leq, e_gtr, e_geq, e_beq, e_bne, e_peq1, e_peq2, e_pne1, e_pne2, e_zeq1, e_zeq2, e_zne1, e_zne2, e_feq1, e_fne1, e_feq2, e_fne2, e_seq, e_sne, e_ta1, e_ta2, Nat.zero_add, Nat.add_zero, Bool.not_true, Bool.not_false] at fin2
  cases ho' : (playS s op).2.2.off with
  | true =>
    cases ho : s.off with
    | true =>
      have : crB s op = false := by unfold crB; rw [ho', ho]; rfl
      rw [this] at fin2
      simp only [e_fd, e_nck, e_pkt, e_pkf, e_gdtt, e_gdtf, e_gdft, e_gdff, e_ift, e_iff, e_not, e_ln, e_lnT, e_cp, e_cvi, e_ex20, e_ex21, e_ex30, e_ex31, e_ex32, e_add, e_sub, e_mul, e_quo, e_rem, e_and, e_or, e_xor, e_shl, e_shr, e_eql, e_neq, e_lss, e_leq, e_gtr, e_geq, e_beq, e_bne, e_peq1, e_peq2, e_pne1, e_pne2, e_zeq1, e_zeq2, e_zne1, e_zne2, e_feq1, e_fne1, e_feq2, e_fne2, e_seq, e_sne, e_ta1, e_ta2, Nat.zero_add, Nat.add_zero, Bool.not_true, Bool.not_false]
      exact fin2
    | false =>
      have : crB s op = true := by unfold crB; rw [ho', ho]; rfl
      rw [this] at fin2
      simp only [e_fd, e_nck, e_pkt, e_pkf, e_gdtt, e_gdtf, e_gdft, e_gdff, e_ift, e_iff, e_not, e_ln, e_lnT, e_cp, e_cvi, e_ex20, e_ex21, e_ex30, e_ex31, e_ex32, e_add, e_sub, e_mul, e_quo, e_rem, e_and, e_or, e_xor, e_shl, e_shr, e_eql, e_neq, e_lss, e_leq, e_gtr, e_geq, e_beq, e_bne, e_peq1, e_peq2, e_pne1, e_pne2, e_zeq1, e_zeq2, e_zne1, e_zne2, e_feq1, e_fne1, e_feq2, e_fne2, e_seq, e_sne, e_ta1, e_ta2, Nat.zero_add, Nat.add_zero, Bool.not_true, Bool.not_false]
      exact fin2
  | false =>
    have : crB s op = false := by unfold crB; rw [ho']; rfl
    rw [this] at fin2
    simp only [e_fd, e_nck, e_pkt, e_pkf, e_gdtt, e_gdtf, e_gdft, e_gdff, e_ift, e_iff, e_not, e_ln, e_lnT, e_cp, e_cvi, e_ex20, e_ex21, e_ex30, e_ex31, e_ex32, e_add, e_sub, e_mul, e_quo, e_rem, e_and, e_or, e_xor, e_shl, e_shr, e_eql, e_neq, e_lss, e_leq, e_gtr, e_geq, e_beq, e_bne, e_peq1, e_peq2, e_pne1, e_pne2, e_zeq1, e_zeq2, e_zne1, e_zne2, e_feq1, e_fne1, e_feq2, e_fne2, e_seq, e_sne, e_ta1, e_ta2, Nat.zero_add, Nat.add_zero, Bool.not_true, Bool.not_false]
    exact fin2

theorem law5_loop (hs : Scr W v xs) (hsm : xs.length ≤ 65536 ∧ ∀ x ∈ xs, x.data.length ≤ 65536 ∧ x.keep.length ≤ 65536) (h : St5 W w d m s oo t5 vs ws ob wb s.flu s.fr 0) :
    s5_p28 (K5 W) (P d 0) (OV oo) (P t5 0) v (I xs.length) (I 0) w := by
  refine ⟨J5 W d oo t5 v xs, xs.length, ⟨0, m, s, vs, ws, ob, wb, by omega, by omega, rfl, h⟩, ?_⟩
  clear h
  rintro n l w ⟨j, m, s, vs, ws, ob, wb, hj, rfl, rfl, h⟩
  rw [s5_p28_Fe]
  unfold s5_p27
  simp only [e_fd, e_nck, e_pkt, e_pkf, e_gdtt, e_gdtf, e_gdft, e_gdff, e_ift, e_iff, e_not, e_ln, e_lnT, e_cp, e_cvi, e_ex20, e_ex21, e_ex30, e_ex31, e_ex32, e_add, e_sub, e_mul, e_quo, e_rem, e_and, e_or, e_xor, e_shl, e_shr, e_eql, e_neq, e_lss, e_leq, e_gtr, e_geq, e_beq, e_bne, e_peq1, e_peq2, e_pne1, e_pne2, e_zeq1, e_zeq2, e_zne1, e_zne2, e_feq1, e_fne1, e_feq2, e_fne2, e_seq, e_sne, e_ta1, e_ta2, Nat.zero_add, Nat.add_zero, Bool.not_true, Bool.not_false]
  by_cases hlt : j < xs.length
  · have hlt' : (j : Int) < (xs.length : Int) := by omega
    simp only [hlt', decide_true, e_fd, e_nck, e_pkt, e_pkf, e_gdtt, e_gdtf, e_gdft, e_gdff, e_ift, e_iff, e_not, e_ln, e_lnT, e_cp, e_cvi, e_ex20, e_ex21, e_ex30, e_ex31, e_ex32, e_add, e_sub, e_mul, e_quo, e_rem, e_and, e_or, e_xor, e_shl, e_shr, e_eql, e_neq, e_lss, e_leq, e_gtr, e_geq, e_beq, e_bne, e_peq1, e_peq2, e_pne1, e_pne2, e_zeq1, e_zeq2, e_zne1, e_zne2, e_feq1, e_fne1, e_feq2, e_fne2, e_seq, e_sne, e_ta1, e_ta2, Nat.zero_add, Nat.add_zero, Bool.not_true, Bool.not_false]
    obtain ⟨hdl, hkl⟩ := hsm.2 _ (List.getElem_mem hlt)
    unfold s5_p26
    refine hs.take h.base.bel hlt hkl fun w1 ob8 dv kvo hob r1 hk1 hov hdv hkv sdv skv => ?_
    generalize xs[j] = op at *
    have h1 := h.kp' hk1
    refine offline_ok h1.base.dk ?_
    refine armed_ok h1.base.dk fun w2 kv kob hk2 sk kf => ?_
    simp only [e_fd, e_nck, e_pkt, e_pkf, e_gdtt, e_gdtf, e_gdft, e_gdff, e_ift, e_iff, e_not, e_ln, e_lnT, e_cp, e_cvi, e_ex20, e_ex21, e_ex30, e_ex31, e_ex32, e_add, e_sub, e_mul, e_quo, e_rem, e_and, e_or, e_xor, e_shl, e_shr, e_eql, e_neq, e_lss, e_leq, e_gtr, e_geq, e_beq, e_bne, e_peq1, e_peq2, e_pne1, e_pne2, e_zeq1, e_zeq2, e_zne1, e_zne2, e_feq1, e_fne1, e_feq2, e_fne2, e_seq, e_sne, e_ta1, e_ta2, Nat.zero_add, Nat.add_zero, Bool.not_true, Bool.not_false]
    refine nw_r fun w3 r3 hk3 hz3 => ?_
    refine stn_r r3 rfl (show 0 + 3 ≤ 3 by decide) (show ([kv, I s.torn, I s.at_] : List Value).all scal = true by simp only [List.all_cons, sl_scal sk]; rfl) fun w4 r4 hk4 hz4 => ?_
    have hk24 : Kp (fun _ => False) w2 w4 := hk3.then hk4 (fun k hk (q : k = _) => by omega)
    have hk14 := hk2.trans hk24
    have h4 := h1.kp' hk14
    have r14 := hk14.row' r1
    have hov4 : OpV w4 W.heap.size (.agg (opc dv kvo op).toArray) op := hov.kp hk14 (fun _ q => q.elim)
    have hovf : ∀ b o c, 0 < op.keep.length → kvo = .slice (some ⟨b, o, none⟩) op.keep.length c → b < W.heap.size := by
      obtain ⟨dv', kv', e1, _, _, _, _, _, _, hb8⟩ := hov
      have e2 : kv' = kvo := by simp [opc] at e1; exact e1.2.symm
      subst e2
      exact hb8
    try simp only [e_fd, e_nck, e_pkt, e_pkf, e_gdtt, e_gdtf, e_gdft, e_gdff, e_ift, e_iff, e_not, e_ln, e_lnT, e_cp, e_cvi, e_ex20, e_ex21, e_ex30, e_ex31, e_ex32, e_add, e_sub, e_mul, e_quo, e_rem, e_and, e_or, e_xor, e_shl, e_shr, e_eql, e_neq, e_lss, e_leq, e_gtr, e_geq, e_beq, e_bne, e_peq1, e_peq2, e_pne1, e_pne2, e_zeq1, e_zeq2, e_zne1, e_zne2, e_feq1, e_fne1, e_feq2, e_fne2, e_seq, e_sne, e_ta1, e_ta2, Nat.zero_add, Nat.add_zero, Bool.not_true, Bool.not_false]
    refine ld1_r r14 (v := I op.kind) rfl ?_
    simp only [e_fd, e_nck, e_pkt, e_pkf, e_gdtt, e_gdtf, e_gdft, e_gdff, e_ift, e_iff, e_not, e_ln, e_lnT, e_cp, e_cvi, e_ex20, e_ex21, e_ex30, e_ex31, e_ex32, e_add, e_sub, e_mul, e_quo, e_rem, e_and, e_or, e_xor, e_shl, e_shr, e_eql, e_neq, e_lss, e_leq, e_gtr, e_geq, e_beq, e_bne, e_peq1, e_peq2, e_pne1, e_pne2, e_zeq1, e_zeq2, e_zne1, e_zne2, e_feq1, e_fne1, e_feq2, e_fne2, e_seq, e_sne, e_ta1, e_ta2, Nat.zero_add, Nat.add_zero, Bool.not_true, Bool.not_false]
    by_cases k3 : op.kind = 3
    · have e : (op.kind == 3) = true := by simpa using k3
      simp only [e, e_fd, e_nck, e_pkt, e_pkf, e_gdtt, e_gdtf, e_gdft, e_gdff, e_ift, e_iff, e_not, e_ln, e_lnT, e_cp, e_cvi, e_ex20, e_ex21, e_ex30, e_ex31, e_ex32, e_add, e_sub, e_mul, e_quo, e_rem, e_and, e_or, e_xor, e_shl, e_shr, e_eql, e_neq, e_lss, e_leq, e_gtr, e_geq, e_beq, e_bne, e_peq1, e_peq2, e_pne1, e_pne2, e_zeq1, e_zeq2, e_zne1, e_zne2, e_feq1, e_fne1, e_feq2, e_fne2, e_seq, e_sne, e_ta1, e_ta2, Nat.zero_add, Nat.add_zero, Bool.not_true, Bool.not_false]
      refine ldn_r r14 (show 5 + 3 ≤ 8 by decide) ?_
      refine stn_r r4 rfl (show 0 + 3 ≤ 3 by decide) (show ([kvo, I op.torn, I op.at_] : List Value).all scal = true by simp only [List.all_cons, skv]; rfl) fun w5 r5 hk5 hz5 => ?_
      have hs2 := hk14.size
      have hW := h1.base.bel.size
      have hk2s := hk2.size
      have lt2 := h1.ro.lt
      have lt5 := h1.rt.lt
      have hT : ∀ b, b = w2.heap.size → W.heap.size ≤ b ∧ ¬ Own d m b ∧ b ≠ oo ∧ b ≠ t5 ∧ ∀ l, ¬ Row w4 b 5 l := by
        intro b e
        subst e
        exact ⟨by omega, fun q => by have := h1.base.dk.lt q; omega, by omega, by omega, fun l q => row_ne q r4 (by decide) rfl⟩
      have h5 := h4.kpT hk5 hT
      have hkv5 : Pl W w5 d m kvo op.keep := .inl ⟨(hkv.kp' hk14).kp hk5 (fun b o c h0 e (q : b = _) => by have := hovf b o c h0 e; omega), fun b o c h0 e q => by have := hovf b o c h0 e; omega⟩
      exact p25_ok hlt hsm.1 hdl h5 hkv5 r5 (hk5.row r14 (fun (q : _ = _) => by have := r1.lt; omega)) (hov.data (hk14.none.trans hk5) (fun b (q : b = _) => by omega) hdv) (hov4.kp hk5 (fun b (q : b = _) => by omega)) (by rw [if_pos k3])
    · have e : (op.kind == 3) = false := by simpa using k3
      simp only [e, e_fd, e_nck, e_pkt, e_pkf, e_gdtt, e_gdtf, e_gdft, e_gdff, e_ift, e_iff, e_not, e_ln, e_lnT, e_cp, e_cvi, e_ex20, e_ex21, e_ex30, e_ex31, e_ex32, e_add, e_sub, e_mul, e_quo, e_rem, e_and, e_or, e_xor, e_shl, e_shr, e_eql, e_neq, e_lss, e_leq, e_gtr, e_geq, e_beq, e_bne, e_peq1, e_peq2, e_pne1, e_pne2, e_zeq1, e_zeq2, e_zne1, e_zne2, e_feq1, e_fne1, e_feq2, e_fne2, e_seq, e_sne, e_ta1, e_ta2, Nat.zero_add, Nat.add_zero, Bool.not_true, Bool.not_false]
      have hkv4 : Pl W w4 d m kv s.keep := .inr ⟨kob, sk.kp' hk24, h.base.dk.klen, fun b hb q => by have := kf b hb; have := h1.base.dk.lt q; omega⟩
      exact p25_ok hlt hsm.1 hdl h4 hkv4 r4 r14 (hdv.kp' hk14) hov4 (by rw [if_neg k3])
  · have hlt' : ¬ (j : Int) < (xs.length : Int) := by omega
    simp only [hlt', decide_false, e_fd, e_nck, e_pkt, e_pkf, e_gdtt, e_gdtf, e_gdft, e_gdff, e_ift, e_iff, e_not, e_ln, e_lnT, e_cp, e_cvi, e_ex20, e_ex21, e_ex30, e_ex31, e_ex32, e_add, e_sub, e_mul, e_quo, e_rem, e_and, e_or, e_xor, e_shl, e_shr, e_eql, e_neq, e_lss, e_leq, e_gtr, e_geq, e_beq, e_bne, e_peq1, e_peq2, e_pne1, e_pne2, e_zeq1, e_zeq2, e_zne1, e_zne2, e_feq1, e_fne1, e_feq2, e_fne2, e_seq, e_sne, e_ta1, e_ta2, Nat.zero_add, Nat.add_zero, Bool.not_true, Bool.not_false]
    exact ⟨rfl, h.base.bel⟩

theorem law5 (hs : Scr W v xs) : cl Try.prog 5 #[v] (fun r w' => r = .bool true ∧ Below W.heap.size W w') W := by
  apply c5
  unfold s5_p29
  refine small_ok hs (Below.refl _ _) fun r hr => ?_
  simp only [e_fd, e_nck, e_pkt, e_pkf, e_gdtt, e_gdtf, e_gdft, e_gdff, e_ift, e_iff, e_not, e_ln, e_lnT, e_cp, e_cvi, e_ex20, e_ex21, e_ex30, e_ex31, e_ex32, e_add, e_sub, e_mul, e_quo, e_rem, e_and, e_or, e_xor, e_shl, e_shr, e_eql, e_neq, e_lss, e_leq, e_gtr, e_geq, e_beq, e_bne, e_peq1, e_peq2, e_pne1, e_pne2, e_zeq1, e_zeq2, e_zne1, e_zne2, e_feq1, e_fne1, e_feq2, e_fne2, e_seq, e_sne, e_ta1, e_ta2, Nat.zero_add, Nat.add_zero, Bool.not_true, Bool.not_false]
  cases r with
  | false =>
    simp only [Bool.not_false, e_fd, e_nck, e_pkt, e_pkf, e_gdtt, e_gdtf, e_gdft, e_gdff, e_ift, e_iff, e_not, e_ln, e_lnT, e_cp, e_cvi, e_ex20, e_ex21, e_ex30, e_ex31, e_ex32, e_add, e_sub, e_mul, e_quo, e_rem, e_and, e_or, e_xor, e_shl, e_shr, e_eql, e_neq, e_lss, e_leq, e_gtr, e_geq, e_beq, e_bne, e_peq1, e_peq2, e_pne1, e_pne2, e_zeq1, e_zeq2, e_zne1, e_zne2, e_feq1, e_fne1, e_feq2, e_fne2, e_seq, e_sne, e_ta1, e_ta2, Nat.zero_add, Nat.add_zero, Bool.not_true, Bool.not_false]
    exact ⟨trivial, Below.refl _ _⟩
  | true =>
    have hr := hr rfl
    simp only [Bool.not_true, e_fd, e_nck, e_pkt, e_pkf, e_gdtt, e_gdtf, e_gdft, e_gdff, e_ift, e_iff, e_not, e_ln, e_lnT, e_cp, e_cvi, e_ex20, e_ex21, e_ex30, e_ex31, e_ex32, e_add, e_sub, e_mul, e_quo, e_rem, e_and, e_or, e_xor, e_shl, e_shr, e_eql, e_neq, e_lss, e_leq, e_gtr, e_geq, e_beq, e_bne, e_peq1, e_peq2, e_pne1, e_pne2, e_zeq1, e_zeq2, e_zne1, e_zne2, e_feq1, e_fne1, e_feq2, e_fne2, e_seq, e_sne, e_ta1, e_ta2, Nat.zero_add, Nat.add_zero, Bool.not_true, Bool.not_false]
    refine fresh_ok fun w1 d m hd hfar hk1 => ?_
    refine readAll_gen hd rfl fun w2 oo vs bs r hk2 hd2 hR => ?_
    refine nw_r fun w3 r3 hk3 hz3 => ?_
    refine hs.ln ?_
    have s1 := hk1.size
    have s2 := hk2.size
    have hof := hR.far
    have hdf := hfar d (.inl rfl)
    have bel : Below W.heap.size W w3 := ((hk1.below').trans (hk2.below s1 (fun b hb (q : b = d) => by omega))).trans (hk3.below (by omega) (fun _ _ q => q))
    have hnS : ∀ i, i < 12 → (nowS s0 i).length = 16 := fun i _ => by simp [nowS, s0]
    refine law5_loop (s := { s0 with rd := r }) (ob := bs) (wb := fun _ => 0) hs hr ⟨⟨hd2.kp' hk3, hfar, bel⟩, hk3.row' hR.row, hR.len, fun q => by have := hd.lt q; omega, by omega, r3, rfl, by omega, fun i hi => ?_, fun i _ x hx => (by cases hx), fun i hi _ _ => nil12_get hi, fun i j hi hj hij => ?_, fun i j _ _ a => absurd rfl a, fun i j _ _ a => absurd rfl a, fun i hi => ?_, fun i _ a => absurd rfl a⟩
    · obtain ⟨e1, e2, e3⟩ := hR.sec i hi
      exact ⟨_, e1, 16, [], rfl, by omega, by rw [List.append_nil]; exact hk3.row' e2, hnS i hi⟩
    · rcases Nat.lt_or_ge i j with q | q
      · have := hR.inj i j q hj; omega
      · have := hR.inj j i (by omega) hi; omega
    · obtain ⟨e1, e2, e3⟩ := hR.sec i hi
      exact ⟨fun q => by have := hd.lt q; omega, by omega⟩
theorem law5_walk (hs : Scr W v xs) : Calls Try.prog 5 #[v] W fun e w' => e = .returned (.bool true) ∧ Below W.heap.size W w' :=
  Calls.mono (law5 hs) fun e w' ⟨v, he, hv, hb⟩ => ⟨by rw [he, hv], hb⟩
end
end Go.Proofs.Qxb6500895a
