import Derived.Test.Qxb6500896aGreatM35
import Derived.Test.Qxb6500896aGreatN31
import Derived.Test.Qxb6500896aGreatN32
import Derived.Test.Qxb6500896aGreatC10
namespace Go.Proofs.Qxb6500896aGreat
open Go.Sh Go.RowKit
set_option linter.unusedVariables false
set_option linter.unusedSimpArgs false

/-- something that stands beside blocks V of others -/
structure Rg (W : World) (Y : (Nat → Prop) → World → Prop) : Prop where
  k : ∀ {V w}, Y V w → Kp Emp W w
  lt : ∀ {V w}, Y V w → ∀ c, V c → c < w.heap.size
  ge : ∀ {V w}, Y V w → ∀ c, V c → W.heap.size ≤ c
  gro : ∀ {V S w w'}, Y V w → Kp S w w' → (∀ b, S b → V b) → Y (fun b => V b ∨ Nb w w' b) w'
  sub : ∀ {V V' w}, Y V w → (∀ c, V' c → V c) → Y V' w
/-- .. and a model beside it -/
def Zg (Y : (Nat → Prop) → World → Prop) (m : Nat) (s : Ms) (V : Nat → Prop) (w : World) : Prop :=
  ∃ O G, Y (fun b => V b ∨ O b ∨ G b) w ∧ Mo O G w m s ∧ ∀ b, V b → ¬ O b ∧ ¬ G b
section
variable {O G F S V V' N : Nat → Prop} {W w w' w0 w1 : World} {r e m b1 b2 e2 : Nat} {v v1 v2 qv fv x : Value} {l : List Value} {K : Value → World → Prop} {σ σ' σ2 c : Sg} {J J' J2 : Jr} {bs : List Int} {bss : List (List Int)} {q : Rq} {X : World → Prop} {Y Y' : (Nat → Prop) → World → Prop} {s : Ms} {ans : Rq → List Int} {k : Int}
theorem Zg.k0 (ry : Rg W Y) (z : Zg Y m s V w) : Kp Emp W w := by obtain ⟨O, G, h, _⟩ := z; exact ry.k h
theorem Zg.lt (ry : Rg W Y) (z : Zg Y m s V w) : ∀ c, V c → c < w.heap.size := by obtain ⟨O, G, h, _⟩ := z; exact fun c q => ry.lt h c (.inl q)
theorem Zg.gro (ry : Rg W Y) (z : Zg Y m s V w) (hk : Kp S w w') (hS : ∀ b, S b → V b) : Zg Y m s (fun b => V b ∨ Nb w w' b) w' := by
  obtain ⟨O, G, h, mo, hd⟩ := z
  refine ⟨O, G, ry.sub (ry.gro h hk fun b q => .inl (hS b q)) fun b q => ?_, mo.kp hk fun b q => hd b (hS b q), fun b q => ?_⟩
  · rcases q with (q | q) | q | q
    · exact .inl (.inl q)
    · exact .inr q
    · exact .inl (.inr (.inl q))
    · exact .inl (.inr (.inr q))
  · rcases q with q | q
    · exact hd b q
    · exact ⟨fun r => by have := mo.lt b (.inl r); have := q.1; omega, fun r => by have := mo.lt b (.inr r); have := q.1; omega⟩
theorem Zg.sub (ry : Rg W Y) (z : Zg Y m s V w) (hV : ∀ c, V' c → V c) : Zg Y m s V' w := by
  obtain ⟨O, G, h, mo, hd⟩ := z
  exact ⟨O, G, ry.sub h fun b q => q.imp (hV b) id, mo, fun b q => hd b (hV b q)⟩
theorem Zg.emp (ry : Rg W Y) (z : Zg Y m s V w) (hk : Kp Emp w w') : Zg Y m s V w' := (z.gro ry (S := Emp) hk fun b q => q.elim).sub ry fun c q => .inl q
theorem Zg.map (z : Zg Y m s V w) (h : ∀ V w, Y V w → Y' V w) : Zg Y' m s V w := by
  obtain ⟨O, G, hy, mo, hd⟩ := z
  exact ⟨O, G, h _ _ hy, mo, hd⟩
/-- a step of whoever stands there: the model stays -/
theorem Zg.step (z : Zg Y m s V w) {X : Prop} (hX : ∀ O G : Nat → Prop, Y (fun b => V b ∨ O b ∨ G b) w → (∀ {w' : World} {S N : Nat → Prop}, Y' (fun b => (V b ∨ O b ∨ G b) ∨ N b) w' → (∀ c, N c → w.heap.size ≤ c) → Kp S w w' → (∀ c, V c ∨ O c ∨ G c → ¬ S c) → (∀ {V V' w}, Y' V w → (∀ c, V' c → V c) → Y' V' w) → Zg Y' m s (fun b => V b ∨ N b) w') → X) : X := by
  obtain ⟨O, G, h, mo, hd⟩ := z
  refine hX O G h fun {w' S N} h' hN hk hS hsub => ⟨O, G, hsub h' fun b q => ?_, mo.kp hk fun b q => ⟨fun r => hS b (.inr (.inl r)) q, fun r => hS b (.inr (.inr r)) q⟩, fun b q => ?_⟩
  · rcases q with (q | q) | q | q
    · exact .inl (.inl q)
    · exact .inr q
    · exact .inl (.inr (.inl q))
    · exact .inl (.inr (.inr q))
  · rcases q with q | q
    · exact hd b q
    · have := hN b q
      exact ⟨fun r => by have := mo.lt b (.inl r); omega, fun r => by have := mo.lt b (.inr r); omega⟩
/-- a request is given to the model -/
theorem Zg.hdl (ry : Rg W Y) (z : Zg Y m c.ms V w) (g : SGd park c) (hx : Ar bC 1 F w v bs) (hF : ∀ b, F b → b < w.heap.size) (hB : By bs) (hl : bs.length ≤ 1000000000000)
    (hK : ∀ w' v' b S, Zg Y m (mdS bs c).1.ms (fun d => V d ∨ d = b) w' → Sl bC 1 w' 5 (some b) v' (mdS bs c).2 → w.heap.size ≤ b → Kp S w w' → (∀ d, V d → ¬ S d) → (∀ d, d < W.heap.size → ¬ S d) → K v' w') : cl Tryz.prog 25 #[P m 0, v] K w := by
  obtain ⟨O, G, h, mo, hd⟩ := z
  have hlt := ry.lt h
  refine handleM_ok mo g hx hF hB hl fun w1 v1 b1 O1 mw sl1 hb1 nb1 => ?_
  have z1 := ry.gro h mw.k fun b q => .inr (.inl q)
  refine hK w1 v1 b1 O ⟨O1, G, ry.sub z1 fun b q => ?_, mw.mo, fun b q => ?_⟩ sl1 hb1 mw.k (fun c q => (hd c q).1) fun c hc q => ?_
  · rcases q with (q | q) | q | q
    · exact .inl (.inl q)
    · subst q
      exact .inr ⟨hb1, sl1.lt⟩
    · rcases mw.dn b q with q | q
      · exact .inl (.inr (.inl q))
      · exact .inr q
    · exact .inl (.inr (.inr q))
  · rcases q with q | q
    · refine ⟨fun r => ?_, (hd b q).2⟩
      rcases mw.dn b r with r | r
      · exact (hd b q).1 r
      · have := hlt b (.inl q); have := r.1; omega
    · subst q
      exact ⟨nb1, fun r => by have := mo.lt b (.inr r); omega⟩
  · have := ry.ge h c (.inr (.inl q)); omega
/-- who answers questions does so beside a model too -/
theorem Srv.zg (sv : Srv W fv ans Y) (ry : Rg W Y) : Srv W fv ans (Zg Y m s) where
  k := fun z => z.k0 ry
  lt := fun z => z.lt ry
  gro := fun z hk hS => z.gro ry hk hS
  sub := fun z hV => z.sub ry hV
  len := sv.len
  call := by
    intro V F w v q K z hq ha hF hK
    obtain ⟨O, G, h, mo, hd⟩ := z
    refine sv.call h hq ha hF fun w1 v1 b1 S z1 sl1 hb1 hk1 hS hW => ?_
    refine hK w1 v1 b1 S ⟨O, G, ry.sub z1 fun b q => ?_, mo.kp hk1 fun b q => ⟨fun r => hS b (.inr (.inl r)) q, fun r => hS b (.inr (.inr r)) q⟩, fun b q => ?_⟩ sl1 hb1 hk1 (fun c q => hS c (.inl q)) hW
    · rcases q with (q | q) | q | q
      · exact .inl (.inl q)
      · exact .inr q
      · exact .inl (.inr (.inl q))
      · exact .inl (.inr (.inr q))
    · rcases q with q | q
      · exact hd b q
      · subst q
        exact ⟨fun r => by have := mo.lt b (.inl r); omega, fun r => by have := mo.lt b (.inr r); omega⟩
/-- a state as an engine that is up would have it -/
abbrev Sg.nrm (c : Sg) : Sg := { c with down := false, loose := 0 }
/-- the model answers questions -/
theorem Zg.srvM (ry : Rg W Y) (g : SGd park c) : Srv W (hdlV m) (ansE c.nrm J) (Zg Y m c.ms) where
  k := fun z => z.k0 ry
  lt := fun z => z.lt ry
  gro := fun z hk hS => z.gro ry hk hS
  sub := fun z hV => z.sub ry hV
  len := fun q => by
    refine eR_len ?_ (hndS_cnt park (enc q) c.nrm J)
    have hrp := stbS_rpn (J := J) (bs := enc q) (σ := c.nrm) park_cv (by decide) (fun _ => g)
    unfold hndS
    simp only
    split
    · exact hrp
    · exact RpN.rf ⟨by decide, by decide⟩
  call := by
    intro V F w v q K z hq ha hF hK
    refine ⟨okHdl, ?_⟩
    show cl Tryz.prog 25 #[P m 0, v] K w
    have el : (enc q).length ≤ 1000000000000 := by
      have := enc_len (q := q) (by obtain ⟨op, id, at', sl, li, rfl, _⟩ := hq.ex; simp [qq])
      omega
    refine z.hdl ry g ha hF hq.by_ el fun w1 v1 b1 S z1 sl1 hb1 hk1 hS hW => ?_
    rw [hq.md] at z1 sl1
    have e1 := (ask_up (σ := c.nrm) (J := J) rfl rfl hq).1
    have sl2 : Sl bC 1 w1 5 (some b1) v1 (ansE c.nrm J q) := by
      unfold ansE
      rw [e1, eR_ansQ]
      exact sl1
    exact hK w1 v1 b1 S z1 sl2 hb1 hk1 hS hW
theorem quM_ms (h : σ.ms = c.ms) : quM q σ = quM q c := by
  have h1 : σ.now = c.now := congrArg Ms.now h
  have h2 : σ.rs = c.rs := congrArg Ms.rs h
  have h3 : σ.ls = c.ls := congrArg Ms.ls h
  have e : qR park q { σ with seq := c.seq } = qR park q c := qR_core (C := park) (σ := c) (σ' := { σ with seq := c.seq }) ⟨h1, h2, h3, rfl⟩ q
  have e2 : qR park q { σ with seq := c.seq } = qR park q σ := rfl
  unfold quM
  rw [h1, ← e2, e]
/-- all answers of one that is up -/
theorem obs_quM (hd : σ.down = false) (hl : σ.loose = 0) (hn : 0 ≤ σ.now ∧ σ.now ≤ 36) : (obs σ.now).flatMap (ansE σ J) = (obs σ.now).flatMap fun q => quM q σ := by
  have : ∀ L : List Rq, (∀ q ∈ L, QOk q) → L.flatMap (ansE σ J) = L.flatMap fun q => quM q σ := by
    intro L
    induction L with
    | nil => intro _; rfl
    | cons q L ih =>
      intro hL
      rw [List.flatMap_cons, List.flatMap_cons, ih fun q hq => hL q (List.mem_cons_of_mem _ hq)]
      congr 1
      unfold ansE
      rw [(ask_up (σ := σ) (J := J) hd hl (hL q List.mem_cons_self)).1, eR_ansQ]
  exact this _ (obs_ok ⟨by omega, by omega⟩)
theorem clk_quM (hd : σ.down = false) (hl : σ.loose = 0) : ansE σ J (qq 20 0 0 0 0) = 0 :: 20 :: (uI σ.now ++ (uI (σ.now + 7) ++ (uI ((σ.rs.length : Nat) : Int) ++ []))) := by
  have hq := qok_none 20 (.inl rfl)
  unfold ansE
  rw [(ask_up (σ := σ) (J := J) hd hl hq).1, eR_ansQ]
  unfold quM
  rw [if_pos (valid_0 (by decide) (by decide) (by decide) (by decide) (by decide) (by decide) (by decide))]
  refine (eR_20 (p := qR park (qq 20 0 0 0 0) σ) rfl rfl).trans ?_
  show [0, 20] ++ (uI σ.now ++ uI (σ.now + 8 - 1) ++ uI ((σ.rs.length : Nat) : Int)) = _
  rw [show σ.now + 8 - 1 = σ.now + 7 by omega]
  simp
/-! ### the rigs -/
theorem leRg : Rg W (fun V w => Le W V w r e σ J) := ⟨fun z => z.k, fun z => z.lt, fun z c hc => by obtain ⟨M, m, h, hr, hM, hV⟩ := z.ex; exact hM c (hV c hc).1, fun z hk hS => z.gro hk hS, fun z hV => z.sub hV⟩
theorem laRg : Rg W (fun V w => La W V w r x J) := ⟨fun z => z.k, fun z => z.lt, fun z c hc => by obtain ⟨M, j, lob, h, hr, hM, hV⟩ := z.ex; exact hM c (hV c hc).1, fun z hk hS => z.gro hk hS, fun z hV => z.sub hV⟩
/-- a rig that answers questions -/
abbrev YU (W : World) (r e : Nat) (σ : Sg) (J : Jr) : (Nat → Prop) → World → Prop := fun V w => ∃ σ', Le W V w r e σ' J ∧ Core σ σ' ∧ σ'.down = false ∧ σ'.loose = 0 ∧ σ'.tail = σ.tail
theorem yuRg : Rg W (YU W r e σ J) := ⟨fun ⟨σ', z, _⟩ => z.k, fun ⟨σ', z, _⟩ => z.lt, fun ⟨σ', z, _⟩ c hc => by obtain ⟨M, m, h, hr, hM, hV⟩ := z.ex; exact hM c (hV c hc).1, fun ⟨σ', z, c⟩ hk hS => ⟨σ', z.gro hk hS, c⟩, fun ⟨σ', z, c⟩ hV => ⟨σ', z.sub hV, c⟩⟩
/-- nobody answers -/
theorem La.send2 (z : La W V w r (.pointer none) J) (hK : ∀ w' v' b, Sl bC 1 w' 5 (some b) v' [19] → w.heap.size ≤ b → Kp Emp w w' → K v' w') : cl Tryz.prog 24 #[P r 0, v] K w := by
  obtain ⟨M, j, lob, h, ⟨hr, hMr⟩, hM, hV⟩ := z.ex
  apply c24
  unfold s24_p1
  try simp only [e_fd, e_nck, e_pkt, e_pkf, e_gdtt, e_gdtf, e_gdft, e_gdff, e_ift, e_iff, e_not, e_ln, e_lnT, e_cp, e_cvi, e_ex20, e_ex21, e_ex30, e_ex31, e_ex32, e_add, e_sub, e_mul, e_quo, e_rem, e_and, e_or, e_xor, e_shl, e_shr, e_eql, e_neq, e_lss, e_leq, e_gtr, e_geq, e_beq, e_bne, e_peq1, e_peq2, e_pne1, e_pne2, e_zeq1, e_zeq2, e_zne1, e_zne2, e_feq1, e_fne1, e_feq2, e_fne2, e_seq, e_sne, e_ta1, e_ta2, Nat.zero_add, Nat.add_zero, Bool.not_true, Bool.not_false]
  refine ld1_r hr rfl ?_
  try simp only [e_fd, e_nck, e_pkt, e_pkf, e_gdtt, e_gdtf, e_gdft, e_gdff, e_ift, e_iff, e_not, e_ln, e_lnT, e_cp, e_cvi, e_ex20, e_ex21, e_ex30, e_ex31, e_ex32, e_add, e_sub, e_mul, e_quo, e_rem, e_and, e_or, e_xor, e_shl, e_shr, e_eql, e_neq, e_lss, e_leq, e_gtr, e_geq, e_beq, e_bne, e_peq1, e_peq2, e_pne1, e_pne2, e_zeq1, e_zeq2, e_zne1, e_zne2, e_feq1, e_fne1, e_feq2, e_fne2, e_seq, e_sne, e_ta1, e_ta2, Nat.zero_add, Nat.add_zero, Bool.not_true, Bool.not_false]
  exact out_1 fun w1 sl hk hz => hK w1 _ _ sl (Nat.le_refl _) hk
set_option maxHeartbeats 1000000 in
/-- a batch is sent to the rig -/
theorem Le.batch (z : Le W V w r e σ J) (gj : GJ k J) (gs : GS k σ) (hk : k + ((bss.length : Nat) : Int) ≤ 1000000) (hq : Rwb F w qv bss) (hF : ∀ b, F b → V b ∨ b < W.heap.size) (hB : ∀ bs ∈ bss, By bs) (hn : bss.length ≤ 100000)
    (hK : ∀ w' v rb S (N : Nat → Prop), Le W (fun c => V c ∨ N c) w' r e (batS park bss σ J).1 (batS park bss σ J).2.1 → Rpb (fun b => N b ∧ b ≠ rb) w' rb v (batS park bss σ J).2.2 → N rb → (∀ c, N c → w.heap.size ≤ c) → Kp S w w' → (∀ c, V c → ¬ S c) → (∀ c, c < W.heap.size → ¬ S c) → K v w') : cl Tryz.prog 37 #[P r 0, qv] K w := by
  obtain ⟨M, me, h, ⟨hr, hMr⟩, hM, hV⟩ := z.ex
  have kz := z.k.size
  have nM : ∀ b, b < W.heap.size → ¬ OwnE e me b := fun b hb q => by have := hM b (h.own q); omega
  apply c37
  unfold s37_p7
  refine nk0 (fdp (ld1_r (v := P e 0) hr rfl ?_))
  simp only [e_peq2]
  unfold s37_p6
  simp only [e_iff]
  unfold s37_p1
  refine nk0 (fdp (ld1_r (v := P e 0) hr rfl ?_))
  refine batE_ok park_cv (by decide) (fun j hj => ?_) h hq (fun b q => ?_) hB hn (fun p => eR_len) (fun bs σ J => stbS_cnt park bs σ J) fun w1 M1 m1 v1 rb hx hk1 hj ho h1 rp fb mb => ?_
  · have b0 := bg gj gs hk j hj
    have h1 := b0.s
    have h2 := b0.t
    have h3 := b0.l
    have h4 := gs.t
    have h5 := gs.l
    exact ⟨⟨by omega, by omega, by omega, by omega, by omega, by omega⟩, b0.g⟩
  · rcases hF b q with q | q
    · exact ⟨z.lt b q, (hV b q).2.1⟩
    · exact ⟨by omega, nM b q⟩
  · have hrl := hr.lt
    refine hK w1 v1 rb (OwnE e me) (fun b => Fb w e w1 m1 b ∧ M1 b) ⟨⟨M1, m1, h1, ⟨?_, hx.sub r hMr⟩, fun b q => ?_, fun c q => ?_⟩, z.k.then hk1 fun b hb q => nM b hb q, z.r0⟩ ?_ ⟨fb, mb⟩ (fun c q => q.1.1) hk1 (fun c q => (hV c q).2.1) fun c hc => nM c hc
    · rw [hj]; exact hk1.row hr (h.nRig hr)
    · rcases hx.new b q with q | q
      · exact hM b q
      · omega
    · rcases q with q | q
      · refine ⟨hx.sub c (hV c q).1, fun r => ?_, (hV c q).2.2⟩
        rcases ho c r with r | r
        · exact (hV c q).2.1 r
        · have := z.lt c q; omega
      · exact ⟨q.2, q.1.2.2, by have := q.1.1; omega⟩
    · obtain ⟨vals, a, b, c⟩ := rp
      exact ⟨vals, a, b, fun i p q => (c i p q).mono fun b q => ⟨⟨q.1, q.2.1⟩, q.2.2⟩⟩
set_option maxHeartbeats 1000000 in
/-- a batch to nobody -/
theorem La.batch (z : La W V w r (.pointer none) J) (hq : Rwb F w qv bss) (hn : bss.length ≤ 100000)
    (hK : ∀ w' v rb, Rpb (fun b => Nb w w' b ∧ b ≠ rb) w' rb v (bss.map fun _ => [19]) → Nb w w' rb → Kp Emp w w' → K v w') : cl Tryz.prog 37 #[P r 0, qv] K w := by
  obtain ⟨M, j, lob, h, ⟨hr, hMr⟩, hM, hV⟩ := z.ex
  obtain ⟨qvals, q1, q2, q3⟩ := hq
  apply c37
  unfold s37_p7
  refine nk0 (fdp (ld1_r (v := .pointer none) hr rfl ?_))
  simp only [e_peq1]
  unfold s37_p6
  simp only [e_ift]
  unfold s37_p5
  refine q1.ln ?_
  refine mks_n (f := one) (k := 1) (z0 := nilS) rfl rfl (by decide) (by omega) (by omega) fun w1 s1 hk1 hz1 => ?_
  refine s1.ln ?_
  rw [List.length_replicate]
  unfold s37_p4
  refine loop_n qvals.length (fun i l w' => l = [.slice (some ⟨w.heap.size, 0, none⟩) qvals.length qvals.length, I (qvals.length : Nat), I (i : Nat)] ∧ Kp Emp w w' ∧ w.heap.size < w'.heap.size ∧ ∃ vals, Sl one 1 w' 37 (some w.heap.size) (.slice (some ⟨w.heap.size, 0, none⟩) qvals.length qvals.length) vals ∧ vals.length = qvals.length ∧ (∀ k (h1 : k < vals.length), k < i → Ar bC 1 (fun b => Nb w w' b ∧ b ≠ w.heap.size) w' vals[k] [19])) ⟨rfl, hk1, by omega, _, s1, List.length_replicate, fun k h1 h2 => by omega⟩ ?_ ?_
  · rintro i l w2 hi ⟨rfl, k2, z2, vals, sl2, hvl, hrep⟩ B hB
    rw [s37_p4_Fe]
    unfold s37_p3
    simp only [dlt hi, e_lss, e_ift]
    refine out_1 fun w3 sl3 hk3 hz3 => ?_
    have hi2 : i < vals.length := by omega
    refine sl_ixp (sl2.kp' hk3) hi2 ?_
    refine sl_upd (j := 0) (y := Value.slice (some ⟨w2.heap.size, 0, none⟩) 1 1) (sl2.kp' hk3) one_len hi2 (by decide) rfl rfl fun w4 sl4 hk4 hz4 => ?_
    simp only [e_add]
    rw [inc i (by omega)]
    have k4 : Kp Emp w w4 := (k2.trans hk3).then hk4 fun b hb (q : b = w.heap.size) => by omega
    refine hB _ _ ⟨rfl, k4, by omega, _, sl4, by rw [List.length_set]; exact hvl, fun k h1 h2 => ?_⟩
    rw [List.length_set] at h1
    by_cases hk : k = i
    · subst hk
      have e1 : (vals.set k (Value.slice (some ⟨w2.heap.size, 0, none⟩) 1 1))[k] = Value.slice (some ⟨w2.heap.size, 0, none⟩) 1 1 := List.getElem_set_self _
      rw [e1]
      refine ((sl3.ar bC_len (by simp) fun c q => (Option.some.inj q).symm).kp hk4 fun b (q : b = w2.heap.size) (r : b = w.heap.size) => by omega).mono fun b (q : b = w2.heap.size) => ⟨⟨by omega, by omega⟩, by omega⟩
    · have e1 : (vals.set i (Value.slice (some ⟨w2.heap.size, 0, none⟩) 1 1))[k] = vals[k] := List.getElem_set_ne (fun q => hk q.symm) _
      rw [e1]
      refine (((hrep k h1 (by omega)).kp' hk3).kp hk4 fun b q (r : b = w.heap.size) => q.2 r).mono fun b q => ⟨⟨q.1.1, by have := q.1.2; omega⟩, q.2⟩
  · rintro l w2 ⟨rfl, k2, z2, vals, sl2, hvl, hrep⟩ B
    rw [s37_p4_Fe]
    unfold s37_p3
    simp only [dnlt, e_lss, e_iff]
    unfold s37_p2
    refine hK w2 _ w.heap.size ⟨vals, sl2, by rw [List.length_map]; omega, fun i h1 h2 => ?_⟩ ⟨Nat.le_refl _, z2⟩ k2
    rw [List.getElem_map]
    exact hrep i h1 (by omega)
end
end Go.Proofs.Qxb6500896aGreat
