import Derived.Test.Qxb6500896aGreatM36
import Derived.Test.Qxb6500896aGreatGG
namespace Go.Proofs.Qxb6500896aGreat
open Go.Sh Go.RowKit
set_option linter.unusedVariables false
set_option linter.unusedSimpArgs false

abbrev YE (W : World) (r e : Nat) (σ : Sg) (J : Jr) : (Nat → Prop) → World → Prop := fun V w => Le W V w r e σ J
abbrev YA (W : World) (r : Nat) (J : Jr) : (Nat → Prop) → World → Prop := fun V w => La W V w r (.pointer none) J
/-- a rig that is up, and the model in its state -/
def CU (W : World) (r m : Nat) (k : Int) (J : Jr) (V : Nat → Prop) (w : World) : Prop := ∃ e σ, Zg (YE W r e σ J) m σ.ms V w ∧ σ.down = false ∧ GS k σ ∧ RgQ (Core σ) σ J
/-- a rig that is not up, and the model in the state c -/
def RD (W : World) (r m : Nat) (k : Int) (J : Jr) (c : Sg) (V : Nat → Prop) (w : World) : Prop := (∃ e σ, Zg (YE W r e σ J) m c.ms V w ∧ σ.down = true ∧ GS k σ) ∨ Zg (YA W r J) m c.ms V w
/-- .. and what may come back is the model's state after some of the requests in flight -/
def CD (W : World) (r m : Nat) (k : Int) (J : Jr) (inF : List (List Int)) (V : Nat → Prop) (w : World) : Prop := ∃ c, SGd park c ∧ RgD (Ch inF c) J ∧ RD W r m k J c V w
def CS (W : World) (r m : Nat) (k : Int) (J : Jr) (inF : List (List Int)) (V : Nat → Prop) (w : World) : Prop := (CU W r m k J V w ∧ inF = []) ∨ CD W r m k J inF V w
section
variable {O G F S V V' N Fr : Nat → Prop} {W w w' w0 w1 : World} {r e m b1 b2 e2 rb : Nat} {v v1 v2 qv fv x t4 t5 t6 t9 t10 t25 t26 t27 : Value} {l : List Value} {K : Value → World → Prop} {B1 : List Value → World → Prop} {σ σ' σ2 c : Sg} {J J' J2 : Jr} {bs : List Int} {bss inF outs : List (List Int)} {q : Rq} {X : World → Prop} {k k' : Int} {ob : Option Nat} {vals : List Value}
theorem CU.gro (h : CU W r m k J V w) (hk : Kp S w w') (hS : ∀ b, S b → V b) : CU W r m k J (fun b => V b ∨ Nb w w' b) w' := by
  obtain ⟨e, σ, z, a⟩ := h
  exact ⟨e, σ, z.gro leRg hk hS, a⟩
theorem RD.gro (h : RD W r m k J c V w) (hk : Kp S w w') (hS : ∀ b, S b → V b) : RD W r m k J c (fun b => V b ∨ Nb w w' b) w' := by
  rcases h with ⟨e, σ, z, a⟩ | z
  · exact .inl ⟨e, σ, z.gro leRg hk hS, a⟩
  · exact .inr (z.gro laRg hk hS)
theorem CU.sub (h : CU W r m k J V w) (hV : ∀ c, V' c → V c) : CU W r m k J V' w := by
  obtain ⟨e, σ, z, a⟩ := h
  exact ⟨e, σ, z.sub leRg hV, a⟩
theorem RD.sub (h : RD W r m k J c V w) (hV : ∀ c, V' c → V c) : RD W r m k J c V' w := by
  rcases h with ⟨e, σ, z, a⟩ | z
  · exact .inl ⟨e, σ, z.sub leRg hV, a⟩
  · exact .inr (z.sub laRg hV)
theorem RD.k0 (h : RD W r m k J c V w) : Kp Emp W w := by
  rcases h with ⟨e, σ, z, a⟩ | z
  · exact z.k0 leRg
  · exact z.k0 laRg
theorem RD.lt (h : RD W r m k J c V w) : ∀ c, V c → c < w.heap.size := by
  rcases h with ⟨e, σ, z, a⟩ | z
  · exact z.lt leRg
  · exact z.lt laRg
theorem RD.mono (h : RD W r m k J c V w) (hk : k ≤ k') : RD W r m k' J c V w := by
  rcases h with ⟨e, σ, z, a, b⟩ | z
  · exact .inl ⟨e, σ, z, a, b.mono hk⟩
  · exact .inr z
theorem CS.gro (h : CS W r m k J inF V w) (hk : Kp S w w') (hS : ∀ b, S b → V b) : CS W r m k J inF (fun b => V b ∨ Nb w w' b) w' := by
  rcases h with ⟨h, e⟩ | ⟨c, g, d, h⟩
  · exact .inl ⟨h.gro hk hS, e⟩
  · exact .inr ⟨c, g, d, h.gro hk hS⟩
theorem CS.sub (h : CS W r m k J inF V w) (hV : ∀ c, V' c → V c) : CS W r m k J inF V' w := by
  rcases h with ⟨h, e⟩ | ⟨c, g, d, h⟩
  · exact .inl ⟨h.sub hV, e⟩
  · exact .inr ⟨c, g, d, h.sub hV⟩
theorem CS.emp (h : CS W r m k J inF V w) (hk : Kp Emp w w') : CS W r m k J inF V w' := (h.gro (S := Emp) hk fun b q => q.elim).sub fun c q => .inl q
theorem CS.k0 (h : CS W r m k J inF V w) : Kp Emp W w := by
  rcases h with ⟨⟨e, σ, z, _⟩, _⟩ | ⟨c, g, d, h⟩
  · exact z.k0 leRg
  · exact h.k0
theorem CS.lt (h : CS W r m k J inF V w) : ∀ c, V c → c < w.heap.size := by
  rcases h with ⟨⟨e, σ, z, _⟩, _⟩ | ⟨c, g, d, h⟩
  · exact z.lt leRg
  · exact h.lt
theorem CS.mono (h : CS W r m k J inF V w) (hk : k ≤ k') : CS W r m k' J inF V w := by
  rcases h with ⟨⟨e, σ, z, a, b, d⟩, he⟩ | ⟨c, g, d, h⟩
  · exact .inl ⟨⟨e, σ, z, a, b.mono hk, d⟩, he⟩
  · exact .inr ⟨c, g, d, h.mono hk⟩
theorem CU.up (h : Zg (YE W r e σ J) m c.ms V w) (hK : K (.bool (!σ.down)) w) : cl Tryz.prog 34 #[P r 0] K w := by
  obtain ⟨O, G, z, _⟩ := h
  exact z.up hK
theorem RD.up (h : RD W r m k J c V w) (hK : K (.bool false) w) : cl Tryz.prog 34 #[P r 0] K w := by
  rcases h with ⟨e, σ, z, a, _⟩ | ⟨O, G, z, _⟩
  · exact CU.up z (by rw [a]; exact hK)
  · exact z.up hK
theorem code19_ok (h : Ar bC 1 F w v [19]) (hK : K (I 19) w) : cl Tryz.prog 29 #[v] K w := by
  apply c29
  unfold s29_p1
  refine h.ln ?_
  simp only [List.length_singleton, e_eql, show (((1 : Nat) : Int) == 0) = false from rfl, e_iff]
  refine h.ix (i := 0) (by simp) fun b o _ cc => ?_
  refine cc.ld0 (v := U8 19) rfl ?_
  simp only [e_cvi]
  rw [wrap64_id (by decide) (by decide)]
  exact hK
/-- the replies of one that is not up -/
theorem dn_loop (hup : ∀ {K' : Value → World → Prop}, K' (.bool false) w → cl Tryz.prog 34 #[P r 0] K' w) (rp : Rpb Fr w rb v outs) (ho : ∀ o ∈ outs, o = [19]) (hl : outs.length ≤ 100000) (next : s6_p2 K B1 (P r 0) t4 t5 t6 t25 t26 t27 w) : s6_p6 K B1 (P r 0) t4 t5 t6 t9 v t25 t26 t27 w := by
  obtain ⟨rv, s1, s2, s3⟩ := rp
  unfold s6_p6
  refine s1.ln ?_
  unfold s6_p5
  have rA : Ar one 1 (fun b => b = rb) w v rv := s1.ar one_len (by omega) fun b e => (Option.some.inj e).symm
  refine loop_n rv.length (fun i l w' => w' = w ∧ l = [P r 0, t4, t5, t6, t9, t25, t26, t27, v, I (rv.length : Nat), I (i : Nat)]) ⟨rfl, rfl⟩ ?_ ?_
  · rintro i l w1 hi ⟨rfl, rfl⟩ B2 hB2
    rw [s6_p5_Fe]
    unfold s6_p4
    simp only [dlt hi, e_lss, e_ift]
    refine rA.ix hi fun b o _ cc => ?_
    refine cc.ld0 (v := rv[i]) rfl ?_
    have h19 := s3 i hi (by omega)
    rw [ho _ (List.getElem_mem (by omega))] at h19
    refine hup ?_
    simp only [e_not, Bool.not_false, e_gdtt]
    refine code19_ok h19 ?_
    simp only [e_neq, show ((19 : Int) != 19) = false from rfl, e_gdff]
    refine h19.ln ?_
    simp only [List.length_singleton, e_neq, show (((1 : Nat) : Int) != 1) = false from rfl, e_pkf, e_pkt, e_iff]
    refine hup ?_
    simp only [e_gdft, e_pkf, e_iff, e_add]
    rw [inc i (by omega)]
    exact hB2 _ _ ⟨rfl, rfl⟩
  · rintro l w1 ⟨rfl, rfl⟩ B2
    rw [s6_p5_Fe]
    unfold s6_p4
    simp only [dnlt, e_lss, e_iff]
    exact next
set_option maxHeartbeats 4000000 in
/-- the replies of one that stays up -/
theorem up_loop {σ0 : Sg} {J0 : Jr} (z : Zg (YE W r e σ J) m σ0.ms V w) (hd : σ.down = false) (hV : ∀ b, ob = some b ∨ N b → V b) (nrb : N rb) (rp : Rpb (fun b => N b ∧ b ≠ rb) w rb v ((stbL park bss σ0 J0).2.2.map eR)) (hq : Qu W w ob t9 vals bss) (hn : bss.length ≤ 100000)
    (hch : ∀ j (hj : j < bss.length), SGd park (stbL park (bss.take j) σ0 J0).1 ∧ eR (stbS park bss[j] (stbL park (bss.take j) σ0 J0).1 (stbL park (bss.take j) σ0 J0).2.1).2.2 = (mdS bss[j] (stbL park (bss.take j) σ0 J0).1).2 ∧ (stbS park bss[j] (stbL park (bss.take j) σ0 J0).1 (stbL park (bss.take j) σ0 J0).2.1).1.ms = (mdS bss[j] (stbL park (bss.take j) σ0 J0).1).1.ms)
    (next : ∀ w' S, Zg (YE W r e σ J) m (stbL park bss σ0 J0).1.ms V w' → Kp S w w' → (∀ d, V d → ¬ S d) → s6_p2 K B1 (P r 0) (P m 0) t5 t6 t25 t26 t27 w') : s6_p6 K B1 (P r 0) (P m 0) t5 t6 t9 v t25 t26 t27 w := by
  unfold s6_p6
  obtain ⟨rv0, a1, a2, a3⟩ := rp
  have hrl : rv0.length = bss.length := by rw [a2, List.length_map, stbL_len]
  refine a1.ln ?_
  rw [hrl]
  unfold s6_p5
  refine loop_n bss.length (fun i l w' => l = [P r 0, P m 0, t5, t6, t9, t25, t26, t27, v, I (bss.length : Nat), I (i : Nat)] ∧ Zg (YE W r e σ J) m (stbL park (bss.take i) σ0 J0).1.ms V w' ∧ Qu W w' ob t9 vals bss ∧ Rpb (fun b => N b ∧ b ≠ rb) w' rb v ((stbL park bss σ0 J0).2.2.map eR) ∧ ∃ S, Kp S w w' ∧ ∀ d, V d → ¬ S d) ⟨rfl, z, hq, ⟨rv0, a1, a2, a3⟩, Emp, Kp.refl _ _, fun _ _ q => q⟩ ?_ ?_
  · rintro i l w1 hi ⟨rfl, z1, q1, ⟨rv, s1, s2, s3⟩, S, hkS, hS⟩ B2 hB2
    rw [s6_p5_Fe]
    unfold s6_p4
    simp only [dlt hi, e_lss, e_ift]
    rw [List.length_map, stbL_len] at s2
    have hk1 : i < rv.length := by omega
    have hk2 : i < vals.length := by rw [q1.ln]; exact hi
    have rA : Ar one 1 (fun b => b = rb) w1 v rv := s1.ar one_len (by omega) fun b e => (Option.some.inj e).symm
    refine rA.ix hk1 fun b o _ cc => ?_
    refine cc.ld0 (v := rv[i]) rfl ?_
    refine CU.up z1 ?_
    rw [hd]
    simp only [e_not, Bool.not_false, Bool.not_true, e_gdft, e_pkf]
    refine g_un (g_un (g_un ?_))
    simp only [e_iff]
    refine CU.up z1 ?_
    rw [hd]
    simp only [Bool.not_false, e_gdtt]
    have qA : Ar one 1 (fun b => ob = some b) w1 t9 vals := q1.sl.ar one_len (by have := q1.ln; omega) fun b e => e
    refine qA.ix hk2 fun b o _ cc => ?_
    refine cc.ld0 (v := vals[i]) rfl ?_
    obtain ⟨gi, ea, em⟩ := hch i hi
    have hbk := q1.by_ _ (List.getElem_mem hi)
    have kz := (z1.k0 leRg).size
    refine z1.hdl leRg gi ((q1.at_ i hk2 hi).kp' (z1.k0 leRg)) (fun b q => by omega) hbk.1 (by omega) fun w2 v2 b2 S2 z2 sl2 hb2 hk2' hS2 hW2 => ?_
    have hrk := s3 i hk1 (by rw [List.length_map, stbL_len]; exact hi)
    rw [List.getElem_map, stbL_get hi] at hrk
    rw [← ea] at sl2
    rw [← em] at z2
    have hrn := stbS_rpn (J := (stbL park (bss.take i) σ0 J0).2.1) (bs := bss[i]) park_cv (by decide) fun _ => gi
    have hll := eR_len hrn (stbS_cnt park _ _ _)
    have nN : ∀ b, N b → ¬ S2 b := fun b q => hS2 b (hV b (.inr q))
    refine sameB_ok (hrk.kp hk2' fun b q => nN b q.1) (sl2.arb (by omega)) fun w3 hk3 => ?_
    rw [decide_eq_true rfl]
    simp only [e_not, Bool.not_true, e_pkt, e_iff, e_add]
    rw [inc i (by omega)]
    refine hB2 _ _ ⟨rfl, ?_, (q1.kp hk2' fun b e => hS2 b (hV b (.inl e))).kp hk3 fun _ _ q => q, ⟨rv, (s1.kp hk2' fun b e => by cases e; exact nN _ nrb).kp' hk3, by rw [List.length_map, stbL_len]; exact s2, fun j a b => ((s3 j a b).kp hk2' fun b q => nN b q.1).kp' hk3⟩, fun b => S b ∨ S2 b, ((hkS.mono fun b _ q => .inl q).trans (hk2'.mono fun b _ q => .inr q)).trans hk3.none, fun d q r => r.elim (hS d q) (hS2 d q)⟩
    rw [List.take_succ_eq_append_getElem hi, stbL_app]
    exact (z2.emp leRg hk3).sub leRg fun d q => .inl q
  · rintro l w1 ⟨rfl, z1, q1, rp1, S, hkS, hS⟩ B2
    rw [s6_p5_Fe]
    unfold s6_p4
    simp only [dnlt, e_lss, e_iff]
    rw [List.take_length] at z1
    exact next w1 S z1 hkS hS
end
end Go.Proofs.Qxb6500896aGreat
