import Derived.Test.Qxb6500896aGreatDoorE3
import Derived.Test.Qxb6500896aGreatDoorN24
namespace Go.Proofs.Qxb6500896aGreatDoor
open Go.Sh Go.RowKit
set_option linter.unusedVariables false
set_option linter.unusedSimpArgs false

section
variable {W w w' w0 : World} {V S F : Nat → Prop} {r e c : Nat} {σ : Sg} {J : Jr} {K : Value → World → Prop} {v : Value} {bs : List Int} {M : Nat → Prop} {m : Me}
theorem newRigF_ok {a b c : Int} (hb : small b) (hk0 : Kp Emp W w) (hK : ∀ w' r e, Le W Emp w' r e (sg0 park) (jr0 a b c) → Kp Emp w w' → K (P r 0) w') : cl Tryz.prog 8 #[.agg #[I a, I b, I c]] K w := by
  have hWz := hk0.size
  apply c8
  unfold s8_p4
  refine nw_r fun w1 r1 hk1 hz1 => ?_
  replace r1 : Row w1 w.heap.size 27 [I a, I b, I c] := r1
  refine ldn_r r1 (show 0 + 3 ≤ 3 by decide) ?_
  refine jnew_ok (M := Emp) hb (fun b q => q.elim) fun w2 M2 j hx2 hk2 hj2 jn2 => ?_
  refine bdq_r (l := [P j 0, .pointer none]) rfl ?_
  refine nw_r fun w3 r3 hk3 hz3 => ?_
  replace r3 : Row w3 w2.heap.size 58 [P j 0, .pointer none] := r3
  have s2 := hk2.size
  have jlt := jn2.lt j jn2.mj
  -- the rig's block is written too
  have hx3 : Ext M2 (fun b => M2 b ∨ b = w2.heap.size) w2 w3 := Ext.add jn2.lt hk3 (Nat.le_refl _) (by omega)
  have jn3 := jn2.ext hx3 hk3 (fun _ q => q.elim) (fun _ _ q => q)
  unfold s8_p3 s8_p3_d
  have kd : Kp Emp w3 (drw w3) := kp_drw
  have szd : (drw w3).heap.size = w3.heap.size := rfl
  generalize drw w3 = w4 at kd szd ⊢
  have r4 := kd.row' r3
  try simp only [e_fd, e_nck, e_pkt, e_pkf, e_gdtt, e_gdtf, e_gdft, e_gdff, e_ift, e_iff, e_not, e_ln, e_lnT, e_cp, e_cvi, e_ex20, e_ex21, e_ex30, e_ex31, e_ex32, e_add, e_sub, e_mul, e_quo, e_rem, e_and, e_or, e_xor, e_shl, e_shr, e_eql, e_neq, e_lss, e_leq, e_gtr, e_geq, e_beq, e_bne, e_peq1, e_peq2, e_pne1, e_pne2, e_zeq1, e_zeq2, e_zne1, e_zne2, e_feq1, e_fne1, e_feq2, e_fne2, e_seq, e_sne, e_ta1, e_ta2, Nat.zero_add, Nat.add_zero, Bool.not_true, Bool.not_false]
  refine ld1_r r4 rfl ?_
  refine park_ok fun w5 l5 hk5 hc5 => ⟨hk5.below', ?_⟩
  have jn5 := (jn3.kp' kd).kp' hk5
  have r5 := hk5.row' r4
  refine open_new hc5 park_v jn5 rfl rfl rfl rfl (fun b hb => by have := hb.1; omega) fun w6 M6 e m hx6 hk6 hmj hml hown he6 => ?_
  have r6 := hk6.row r5 (show ¬ w2.heap.size = j by omega)
  simp only [ex2_0, ex2_1, and_self]
  unfold s8_p2
  try simp only [e_fd, e_nck, e_pkt, e_pkf, e_gdtt, e_gdtf, e_gdft, e_gdff, e_ift, e_iff, e_not, e_ln, e_lnT, e_cp, e_cvi, e_ex20, e_ex21, e_ex30, e_ex31, e_ex32, e_add, e_sub, e_mul, e_quo, e_rem, e_and, e_or, e_xor, e_shl, e_shr, e_eql, e_neq, e_lss, e_leq, e_gtr, e_geq, e_beq, e_bne, e_peq1, e_peq2, e_pne1, e_pne2, e_zeq1, e_zeq2, e_zne1, e_zne2, e_feq1, e_fne1, e_feq2, e_fne2, e_seq, e_sne, e_ta1, e_ta2, Nat.zero_add, Nat.add_zero, Bool.not_true, Bool.not_false]
  unfold s8_p1
  try simp only [e_fd, e_nck, e_pkt, e_pkf, e_gdtt, e_gdtf, e_gdft, e_gdff, e_ift, e_iff, e_not, e_ln, e_lnT, e_cp, e_cvi, e_ex20, e_ex21, e_ex30, e_ex31, e_ex32, e_add, e_sub, e_mul, e_quo, e_rem, e_and, e_or, e_xor, e_shl, e_shr, e_eql, e_neq, e_lss, e_leq, e_gtr, e_geq, e_beq, e_bne, e_peq1, e_peq2, e_pne1, e_pne2, e_zeq1, e_zeq2, e_zne1, e_zne2, e_feq1, e_fne1, e_feq2, e_fne2, e_seq, e_sne, e_ta1, e_ta2, Nat.zero_add, Nat.add_zero, Bool.not_true, Bool.not_false]
  have hMr : M6 w2.heap.size := hx6.sub _ (.inr rfl)
  refine st1_r r6 (show 1 < 2 by decide) rfl fun w7 r7 hk7 hz7 => ?_
  replace r7 : Row w7 w2.heap.size 58 [P j 0, P e 0] := r7
  have nown := he6.nRig r6
  have h7 := he6.ext (Ext.same he6.lt hk7) hk7 (fun b (q : b = _) _ => q ▸ hMr) fun b q (q2 : b = _) => nown (q2 ▸ q)
  have hM6 : ∀ b, M6 b → w.heap.size ≤ b := fun b q => by
    have s5 := hk5.size
    rcases hx6.new b q with q | q
    · rcases q with q | q
      · rcases hx2.new b q with q | q
        · exact q.elim
        · omega
      · omega
    · omega
  have k7 : Kp Emp w w7 := ((((hk1.trans hk2).trans hk3).trans (kd.trans hk5)).then hk6 fun b hb (q : b = j) => by omega).then hk7 fun b hb (q : b = _) => by omega
  refine hK w7 w2.heap.size e ⟨⟨M6, m, h7, ⟨?_, hMr⟩, fun b q => by have := hM6 b q; omega, fun c q => q.elim⟩, hk0.trans k7, by omega⟩ k7
  rw [hmj]; exact r7
end
theorem gs0 : GS 0 (sg0 park) := ⟨fun _ => Gd.zero park_cv, fun _ => rfl, ⟨by decide, by decide⟩, ⟨by decide, by decide⟩, ⟨by decide, by decide⟩⟩
theorem gj0 : GJ 0 (jr0 48 72 1200) := ⟨⟨(fun x hx => by cases hx), (fun x hx => by cases hx), by simp [jr0]⟩, Jlm.zero.2 (by decide), by unfold sJ; simp [jr0]⟩

/-- nothing that is read lies in the map's block -/
theorem ar_nomap {α : Type} {f : α → List Value} {k : Nat} {F : Nat → Prop} {w : World} {v : Value} {xs : List α} {gb : Nat} {q : IntKind} {ns : List Int} (hk : ∀ x, 0 < (f x).length) (h : Ar f k F w v xs) (hm : MapAt w gb q ns) : Ar f k (fun b => F b ∧ b ≠ gb) w v xs := by
  obtain ⟨h1, h2⟩ := h
  refine ⟨h1, ?_⟩
  rcases h2 with h2 | ⟨b, o, cap, e1, e2, e3, e4, e5⟩
  · exact .inl h2
  · refine .inr ⟨b, o, cap, e1, e2, ⟨e3, fun e => ?_⟩, e4, e5⟩
    have hc := e5 0 e4 0 (hk _)
    rw [List.getElem?_eq_getElem (hk _)] at hc
    obtain ⟨es, clk, hb, _⟩ := hm
    rw [← e] at hb
    unfold World.cell? at hc
    rw [hb] at hc
    simp at hc
theorem ro_nomap {F : Nat → Prop} {w : World} {rv : Value} {rs : List Rec} {gb : Nat} {q : IntKind} {ns : List Int} (h : Ro F w rv rs) (hm : MapAt w gb q ns) : Ro (fun b => F b ∧ b ≠ gb) w rv rs := by
  obtain ⟨its, e1, e2, e3⟩ := h
  exact ⟨its, e1, ar_nomap (fun p => by rw [rC_len]; decide) e2 hm, fun p hp => ar_nomap (fun p => by rw [lC_len]; decide) (e3 p hp) hm⟩
/-- the rig; B: what was seen last -/
def Rg2 (W : World) (V : Nat → Prop) (w : World) (r : Nat) (J : Jr) (k : Int) (B : List Rec) : Prop :=
  (∃ e σ, Le W V w r e σ J ∧ GS k σ ∧ σ.down = false ∧ RgQ (Core σ) σ J ∧ σ.loose = 0 ∧ Rel B σ.rs) ∨
  (((∃ e σ, Le W V w r e σ J ∧ GS k σ ∧ σ.down = true) ∨ La W V w r (.pointer none) J) ∧ RgD (fun s => Rel B s.rs) J)
/-- the rig between two steps: what is up was seen -/
def Rg3 (W : World) (V : Nat → Prop) (w : World) (r : Nat) (J : Jr) (k : Int) (B : List Rec) : Prop :=
  (∃ e σ, Le W V w r e σ J ∧ GS k σ ∧ σ.down = false ∧ RgQ (Core σ) σ J ∧ σ.loose = 0 ∧ B = σ.rs) ∨
  (((∃ e σ, Le W V w r e σ J ∧ GS k σ ∧ σ.down = true) ∨ La W V w r (.pointer none) J) ∧ RgD (fun s => Rel B s.rs) J)
theorem Rg3.two {W : World} {V : Nat → Prop} {w : World} {r : Nat} {J : Jr} {k : Int} {B : List Rec} (h : Rg3 W V w r J k B) : Rg2 W V w r J k B := by
  rcases h with ⟨e, σ, z, g, d, q, l, rfl⟩ | h
  · exact .inl ⟨e, σ, z, g, d, q, l, Rel.refl _⟩
  · exact .inr h
theorem Rg3.gro {W : World} {V S : Nat → Prop} {w w' : World} {r : Nat} {J : Jr} {k : Int} {B : List Rec} (h : Rg3 W V w r J k B) (hk : Kp S w w') (hS : ∀ b, S b → V b) : Rg3 W (fun b => V b ∨ Nb w w' b) w' r J k B := by
  rcases h with ⟨e, σ, z, g⟩ | ⟨⟨e, σ, z, g⟩ | z, d⟩
  · exact .inl ⟨e, σ, z.gro hk hS, g⟩
  · exact .inr ⟨.inl ⟨e, σ, z.gro hk hS, g⟩, d⟩
  · exact .inr ⟨.inr (z.gro hk hS), d⟩
section
variable {W w w' w0 w1 : World} {V V' S F : Nat → Prop} {r e c gb : Nat} {σ : Sg} {J : Jr} {K : Value → World → Prop} {B1 : List Value → World → Prop} {v bv av t30 t31 t32 : Value} {bs : List Int} {k k' : Int} {B : List Rec} {ns : List Int} {xs : List Op}
theorem Rg2.gro (h : Rg2 W V w r J k B) (hk : Kp S w w') (hS : ∀ b, S b → V b) : Rg2 W (fun b => V b ∨ Nb w w' b) w' r J k B := by
  rcases h with ⟨e, σ, z, g⟩ | ⟨⟨e, σ, z, g⟩ | z, d⟩
  · exact .inl ⟨e, σ, z.gro hk hS, g⟩
  · exact .inr ⟨.inl ⟨e, σ, z.gro hk hS, g⟩, d⟩
  · exact .inr ⟨.inr (z.gro hk hS), d⟩
theorem Rg2.sub (h : Rg2 W V w r J k B) (hV : ∀ c, V' c → V c) : Rg2 W V' w r J k B := by
  rcases h with ⟨e, σ, z, g⟩ | ⟨⟨e, σ, z, g⟩ | z, d⟩
  · exact .inl ⟨e, σ, z.sub hV, g⟩
  · exact .inr ⟨.inl ⟨e, σ, z.sub hV, g⟩, d⟩
  · exact .inr ⟨.inr (z.sub hV), d⟩
theorem Rg2.kp0 (h : Rg2 W V w r J k B) : Kp Emp W w := by
  rcases h with ⟨e, σ, z, g⟩ | ⟨⟨e, σ, z, g⟩ | z, d⟩
  · exact z.k
  · exact z.k
  · exact z.k
theorem Rg2.lt (h : Rg2 W V w r J k B) : ∀ c, V c → c < w.heap.size := by
  rcases h with ⟨e, σ, z, g⟩ | ⟨⟨e, σ, z, g⟩ | z, d⟩
  · exact z.lt
  · exact z.lt
  · exact z.lt
theorem Rg2.mono (h : Rg2 W V w r J k B) (hk : k ≤ k') : Rg2 W V w r J k' B := by
  rcases h with ⟨e, σ, z, g, g2⟩ | ⟨⟨e, σ, z, g, g2⟩ | z, d⟩
  · exact .inl ⟨e, σ, z, g.mono hk, g2⟩
  · exact .inr ⟨.inl ⟨e, σ, z, g.mono hk, g2⟩, d⟩
  · exact .inr ⟨.inr z, d⟩
theorem Rg2.la (h : Rg2 W V w r J k B) : ∃ x, La W V w r x J := by
  rcases h with ⟨e, σ, z, g⟩ | ⟨⟨e, σ, z, g⟩ | z, d⟩
  · exact ⟨_, z.la⟩
  · exact ⟨_, z.la⟩
  · exact ⟨_, z⟩
theorem Rg2.d (h : Rg2 W V w r J k B) : RgD (fun s => Rel B s.rs) J := by
  rcases h with ⟨e, σ, z, g, _, q, l, hr⟩ | ⟨_, d⟩
  · exact Gd.rel q l hr
  · exact d
/-- what the law holds between two steps -/
structure Cs (W : World) (V : Nat → Prop) (w : World) (r c gb : Nat) (J : Jr) (k : Int) (B : List Rec) (bv : Value) (ns : List Int) : Prop where
  rg : Rg2 W V w r J k B
  gj : GJ k J
  vc : V c
  vg : V gb
  rc : Row w c 97 [sendV r]
  hb : Ro (fun b => V b ∧ b ≠ gb) w bv B
  st : ∀ x ∈ B, 1 ≤ x.st ∧ x.st ≤ 9
  len : B.length ≤ 26
  mp : MapAt w gb .i64 ns
  ns : ∀ n ∈ ns, n ≤ ((B.length : Nat) : Int)
/-- memory goes on; the law's blocks are as they were -/
theorem Cs.on (h : Cs W V w r c gb J k B bv ns) (rg : Rg2 W V' w' r J k B) (hV : ∀ b, V b → V' b) (ky : Ky V w w') : Cs W V' w' r c gb J k B bv ns := by
  obtain ⟨S, kk, q⟩ := ky
  obtain ⟨its, e1, e2, e3⟩ := h.hb
  exact ⟨rg, h.gj, hV _ h.vc, hV _ h.vg, kk.row h.rc (q _ h.vc), ⟨its, e1, (e2.kp kk fun b hb => q b hb.1).mono fun b hb => ⟨hV b hb.1, hb.2⟩, fun p hp => ((e3 p hp).kp kk fun b hb => q b hb.1).mono fun b hb => ⟨hV b hb.1, hb.2⟩⟩, h.st, h.len, h.mp.kp kk (q _ h.vg), h.ns⟩
theorem Cs.emp (h : Cs W V w r c gb J k B bv ns) (hk : Kp Emp w w') : Cs W (fun b => V b ∨ Nb w w' b) w' r c gb J k B bv ns :=
  h.on (h.rg.gro (S := Emp) hk fun b q => q.elim) (fun b q => .inl q) (Ky.of hk fun _ _ q => q)
end
end Go.Proofs.Qxb6500896aGreatDoor
