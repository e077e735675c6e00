import Derived.Test.Qxb6500896aGreatDoorE4
namespace Go.Proofs.Qxb6500896aGreatDoor
open Go.Sh Go.RowKit
set_option linter.unusedVariables false
set_option linter.unusedSimpArgs false

section
variable {W w w' w0 w1 : World} {V V' S F : Nat → Prop} {r e c gb b9 b10 : Nat} {σ σ' : Sg} {J J' : Jr} {K : Value → World → Prop} {B1 : List Value → World → Prop} {v bv av t9 t10 t11 t30 t31 t32 lv : Value} {bs : List Int} {k k' : Int} {B : List Rec} {ns : List Int} {xs : List Op} {l9 : List Value} {q : Rq} {idv code : Int}
/-- an engine that differs in counters alone -/
theorem up_core (g : GS k σ) (hd : σ.down = false) (hq : RgQ (Core σ) σ J) (hl : σ.loose = 0) (c : Core σ σ') (d1 : σ'.down = false) (d2 : σ'.loose = 0) (d3 : σ'.tail = σ.tail) : GS k σ' ∧ RgQ (Core σ') σ' J := by
  refine ⟨⟨fun _ => c.gd (g.g hd), fun _ => d2, by rw [c.seq]; exact g.s, by rw [d3]; exact g.t, by rw [d2]; have := g.l; omega⟩, ?_⟩
  exact (hq.same c (by rw [d1, hd]) d3 (by rw [d2, hl])).mono fun s hs => c.symm.trans hs
/-- the law has seen the engine's records -/
theorem Cs.seen (h : Cs W V w r c gb J k B bv ns) (z : Le W V w r e σ J) (g : GS k σ) (hd : σ.down = false) (hq : RgQ (Core σ) σ J) (hl : σ.loose = 0) (hle : B.length ≤ σ.rs.length) (ha : Ro (fun b => V b ∧ b ≠ gb) w av σ.rs) : Cs W V w r c gb J k σ.rs av ns ∧ Rg3 W V w r J k σ.rs := by
  have gd := g.g hd
  have hlen := gd.len
  have hmb : park.mb = 26 := rfl
  rw [hmb] at hlen
  exact ⟨⟨.inl ⟨e, σ, z, g, hd, hq, hl, Rel.refl _⟩, h.gj, h.vc, h.vg, h.rc, ha, gd.st9, by omega, h.mp, fun n hn => by have := h.ns n hn; omega⟩, .inl ⟨e, σ, z, g, hd, hq, hl, rfl⟩⟩
set_option maxHeartbeats 2000000 in
/-- the engine is up: its records are fetched and compared -/
theorem p9_up (hG : Gm W) (hk : k ≤ 1000000) (h : Cs W V w r c gb J k B bv ns) (z : Le W V w r e σ J) (g : GS k σ) (hd : σ.down = false) (hq : RgQ (Core σ) σ J) (hl : σ.loose = 0) (hr : Rel B σ.rs)
    (tail : ∀ w' V' av σ', Cs W V' w' r c gb J k B bv ns → (∀ b, V b → V' b) → Ky V w w' → Ro (fun b => V' b ∧ b ≠ gb) w' av σ'.rs → Le W V' w' r e σ' J → GS k σ' → σ'.down = false → RgQ (Core σ') σ' J → σ'.loose = 0 → σ'.rs = σ.rs → s3_p5 K B1 (P r 0) (P c 0) bv (.map (some gb)) t9 t10 t11 av t30 t31 t32 w') :
    s3_p9 K B1 (P r 0) (P c 0) bv (.map (some gb)) t9 t10 t11 t30 t31 t32 w := by
  have gd := g.g hd
  have hlen := gd.len
  have hmb : park.mb = 26 := rfl
  rw [hmb] at hlen
  have srv := Le.srv (W := W) (r := r) (e := e) (J := J) g hk hd
  unfold s3_p9
  refine z.up ?_
  rw [hd]
  simp only [Bool.not_false, e_not, Bool.not_true, e_iff]
  refine all_ok srv (ansE_up g hd) gd ⟨σ, z, Core.refl σ, hd, hl, rfl⟩ h.rc h.vc fun w1 av V1 its ob ⟨σ1, z1, c1, d1, d2, d3⟩ hV1 hits sl hob hlg ky => ?_
  obtain ⟨g1, q1⟩ := up_core g hd hq hl c1 d1 d2 d3
  have h1 := h.on (.inl ⟨e, σ1, z1, g1, d1, q1, d2, by rw [c1.rs]; exact hr⟩) hV1 ky
  have hil : its.length = σ.rs.length := by rw [← hits, List.length_map]
  have ra : Ro V1 w1 av σ.rs := ⟨its, hits, sl.ar rC_len (by omega) hob, fun p hp => (hlg p hp).mono fun b hb => hb.1⟩
  have ra' := ro_nomap ra h1.mp
  simp only [ex2_0, ex2_1, e_fne1, e_gdff]
  refine ra.ln ?_
  refine h1.hb.ln ?_
  have hle := hr.1
  simp only [e_lss, decide_eq_false (show ¬ ((σ.rs.length : Nat) : Int) < ((B.length : Nat) : Int) by omega), e_pkf, e_iff]
  refine ra.ln ?_
  refine cmp_ok hG z1.k ra' h1.hb hr gd.ids gd.st9 h.st (by omega) fun w2 k2 => ?_
  have h2 := h1.emp k2
  have z2 := z1.gro (S := Emp) k2 fun b q => q.elim
  have ra2 : Ro (fun b => (V1 b ∨ Nb w1 w2 b) ∧ b ≠ gb) w2 av σ1.rs := by
    rw [c1.rs]
    obtain ⟨its, e1, e2, e3⟩ := ra'
    exact ⟨its, e1, (e2.kp' k2).mono fun b hb => ⟨.inl hb.1, hb.2⟩, fun p hp => ((e3 p hp).kp' k2).mono fun b hb => ⟨.inl hb.1, hb.2⟩⟩
  exact tail w2 _ av σ1 h2 (fun b q => .inl (hV1 b q)) (ky.trans (Ky.of (V := V1) k2 fun _ _ q => q) hV1) ra2 z2 g1 d1 q1 d2 c1.rs
/-- a step that was not answered -/
theorem p9_no (hG : Gm W) (hk : k ≤ 1000000) (h : Cs W V w r c gb J k B bv ns)
    (next : ∀ w' V' B' bv', Cs W V' w' r c gb J k B' bv' ns ∧ Rg3 W V' w' r J k B' → s3_p2 K B1 (P r 0) (P c 0) bv' (.map (some gb)) t30 t31 t32 w') :
    s3_p9 K B1 (P r 0) (P c 0) bv (.map (some gb)) t9 t10 (.bool false) t30 t31 t32 w := by
  rcases h.rg with ⟨e, σ, z, g, hd, hq, hl, hr⟩ | ⟨⟨e, σ, z, g, hd⟩ | z, d⟩
  · refine p9_up hG hk h z g hd hq hl hr fun w1 V1 av σ1 h1 hV1 ky1 ra z1 g1 d1 q1 l1 e1 => ?_
    refine p5_no ?_
    exact next w1 V1 _ av (h1.seen z1 g1 d1 q1 l1 (by rw [e1]; exact hr.1) ra)
  · unfold s3_p9
    refine z.up ?_
    rw [hd]
    simp only [Bool.not_true, e_not, Bool.not_false, e_ift]
    exact next w V B bv ⟨h, .inr ⟨.inl ⟨e, σ, z, g, hd⟩, d⟩⟩
  · unfold s3_p9
    refine z.up ?_
    simp only [e_not, Bool.not_false, e_ift]
    exact next w V B bv ⟨h, .inr ⟨.inr z, d⟩⟩
/-- a step that was answered -/
theorem p9_yes (hG : Gm W) (hk : k ≤ 1000000) (h : Cs W V w r c gb J k B bv ns) (z : Le W V w r e σ J) (g : GS k σ) (hd : σ.down = false) (hq : RgQ (Core σ) σ J) (hl : σ.loose = 0) (hr : Rel B σ.rs)
    (r9 : Row w b9 46 l9) (v9 : V b9) (h90 : l9[0]? = some (I code)) (h92 : l9[2]? = some (I idv)) (r10 : Row w b10 49 (q.cells lv)) (v10 : V b10) (hlv : Ar lC 2 V w lv q.legs)
    (hnew : code = 0 → (q.op = 1 ∨ q.op = 6) → idv = ((σ.rs.length : Nat) : Int) ∧ σ.rs.length = B.length + 1)
    (hreb : q.op = 5 → has B q.id → (rget σ.rs q.id).legs = if code = 0 then q.legs else (rget B q.id).legs)
    (next : ∀ w' V' B' bv' ns', Cs W V' w' r c gb J k B' bv' ns' ∧ Rg3 W V' w' r J k B' → s3_p2 K B1 (P r 0) (P c 0) bv' (.map (some gb)) t30 t31 t32 w') :
    s3_p9 K B1 (P r 0) (P c 0) bv (.map (some gb)) (P b9 0) (P b10 0) (.bool true) t30 t31 t32 w := by
  refine p9_up hG hk h z g hd hq hl hr fun w1 V1 av σ1 h1 hV1 ky1 ra z1 g1 d1 q1 l1 e1 => ?_
  have gd1 := g1.g d1
  have hlen := gd1.len
  have hmb : park.mb = 26 := rfl
  rw [hmb] at hlen
  have hlv1 : Ar lC 2 (fun b => V1 b ∧ b ≠ gb) w1 lv q.legs := ar_nomap (fun p => by rw [lC_len]; decide) ((ky1.ar (fun b hb => hb) hlv).mono hV1) h1.mp
  rw [← e1] at hnew hreb hr
  refine p5_ok ra h1.hb hr.1 (by omega) (ky1.row v9 r9) h90 h92 (ky1.row v10 r10) hlv1 (fun b hb => hb.2) (fun b hb => hb.2) hnew hreb h1.mp h1.ns fun w2 ns2 hm2 hn2 hk2 => ?_
  have z2 := z1.gro hk2 fun b (q : b = gb) => q ▸ h1.vg
  have hne : c ≠ gb := h1.mp.not_row h1.rc
  refine next w2 (fun b => V1 b ∨ Nb w1 w2 b) σ1.rs av ns2 ⟨⟨.inl ⟨e, σ1, z2, g1, d1, q1, l1, Rel.refl _⟩, h1.gj, .inl h1.vc, .inl h1.vg, hk2.row h1.rc hne, ?_, gd1.st9, by omega, hm2, hn2⟩, .inl ⟨e, σ1, z2, g1, d1, q1, l1, rfl⟩⟩
  obtain ⟨its, f1, f2, f3⟩ := ra
  exact ⟨its, f1, (f2.kp hk2 fun b hb q => hb.2 q).mono fun b hb => ⟨.inl hb.1, hb.2⟩, fun p hp => ((f3 p hp).kp hk2 fun b hb q => hb.2 q).mono fun b hb => ⟨.inl hb.1, hb.2⟩⟩
end
end Go.Proofs.Qxb6500896aGreatDoor
