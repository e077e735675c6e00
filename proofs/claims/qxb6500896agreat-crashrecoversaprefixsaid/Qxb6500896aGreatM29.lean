import Derived.Test.Qxb6500896aGreatN28
import Derived.Test.Qxb6500896aGreatK87
namespace Go.Proofs.Qxb6500896aGreat
open Go.Sh Go.RowKit
set_option linter.unusedVariables false
set_option linter.unusedSimpArgs false

section
variable {O G F S V V' : Nat → Prop} {W w w' w0 : World} {r e m : Nat} {v : Value} {l : List Value} {K : Value → World → Prop} {σ σ' : Sg} {J J' : Jr} {bs : List Int} {q : Rq}
/-- a new model -/
theorem newM_ok (hc : Cg F w l park) (hF : ∀ b, F b → b < w.heap.size) (hK : ∀ w' m, Mo (Nb w w') F w' m (sg0 park).ms → Kp Emp w w' → K (P m 0) w') : cl Tryz.prog 20 #[.agg l.toArray] K w := by
  obtain ⟨va, vt, rfl, ha, ht⟩ := hc.ex
  apply c20
  unfold s20_p3
  refine nw_r fun w1 r1 hk1 hz1 => ?_
  replace r1 : Row w1 w.heap.size 34 (park.cells va vt) := r1
  unfold s20_p2 s20_p2_d
  have kd : Kp Emp w1 (drw w1) := kp_drw
  have szd : (drw w1).heap.size = w1.heap.size := rfl
  generalize drw w1 = w2 at kd szd ⊢
  have r2 := kd.row' r1
  refine ldn_r r2 (show 0 + 14 ≤ 14 by decide) ?_
  refine fdp (ld1_r (v := va) r2 rfl ?_)
  refine ha.ln ?_
  refine mks_n (f := lmC) (k := 1) (z0 := (⟨[], nilS, none⟩ : Lm)) rfl rfl (by decide) (by decide) (by decide) fun w3 s3 hk3 hz3 => ⟨hk3.below', ?_⟩
  refine bdq_r (l := mrow va vt nilS (.slice (some ⟨w2.heap.size, 0, none⟩) park.ats.length park.ats.length) 0) rfl ?_
  refine nw_r fun w4 r4 hk4 hz4 => ?_
  replace r4 : Row w4 w3.heap.size 119 (mrow va vt nilS (.slice (some ⟨w2.heap.size, 0, none⟩) park.ats.length park.ats.length) 0) := r4
  unfold s20_p1
  have k4 : Kp Emp w w4 := ((hk1.trans kd).trans hk3).trans hk4
  have hrep : ∀ p ∈ List.replicate park.ats.length (⟨[], nilS, none⟩ : Lm), p = ⟨[], nilS, none⟩ := fun p hp => List.eq_of_mem_replicate hp
  refine hK w4 w3.heap.size ⟨va, vt, nilS, _, none, some w2.heap.size, [], List.replicate park.ats.length ⟨[], nilS, none⟩, ⟨r4, ?_, ⟨rfl, rfl⟩, s3.kp' hk4, fun p hp => ?_, ?_, fun b q => ?_, fun p hp => (by cases hp), fun b q r => ?_, fun b q => ?_⟩, rfl, ?_⟩ k4
  · exact hc.kp' k4
  · rw [hrep p hp]; exact ⟨rfl, rfl⟩
  · rw [List.pairwise_replicate]
    right
    intro b e
    cases e
  · rcases q with q | q | q | ⟨p, hp, q⟩
    · exact ⟨by omega, by omega⟩
    · cases q
    · have q := Option.some.inj q
      exact ⟨by omega, by omega⟩
    · rw [hrep p hp] at q; cases q
  · have := hF b q; have := r.1; omega
  · rcases q with q | q
    · exact q.2
    · have := hF b q; have := k4.size; omega
  · show (List.replicate park.ats.length (⟨[], nilS, none⟩ : Lm)).map Lm.ids = List.replicate park.ats.length []
    rw [List.map_replicate]
/-! ### a rig and a model side by side -/
def Zm (W : World) (r e m : Nat) (σ : Sg) (J : Jr) (V : Nat → Prop) (w : World) : Prop :=
  ∃ O G σ', Lz W (fun b => V b ∨ O b ∨ G b) w r e σ' J ∧ Core σ σ' ∧ Mo O G w m σ.ms ∧ ∀ b, V b → ¬ O b ∧ ¬ G b
theorem Lz.ge (z : Lz W V w r e σ J) : ∀ c, V c → W.heap.size ≤ c := fun c hc => by
  obtain ⟨M, m, h, hr, hM, hV⟩ := z.ex
  exact hM c (hV c hc).1
theorem Zm.k (z : Zm W r e m σ J V w) : Kp Emp W w := by obtain ⟨O, G, σ', h, _⟩ := z; exact h.k
theorem Zm.lt (z : Zm W r e m σ J V w) : ∀ c, V c → c < w.heap.size := by obtain ⟨O, G, σ', h, _⟩ := z; exact fun c q => h.lt c (.inl q)
theorem Zm.gro (z : Zm W r e m σ J V w) (hk : Kp S w w') (hS : ∀ b, S b → V b) : Zm W r e m σ J (fun b => V b ∨ Nb w w' b) w' := by
  obtain ⟨O, G, σ', h, c, mo, hd⟩ := z
  refine ⟨O, G, σ', (h.gro hk fun b q => .inl (hS b q)).sub fun b q => ?_, c, mo.kp hk fun b q => hd b (hS b q), fun b q => ?_⟩
  · rcases q with (q | q) | q | q
    · exact .inl (.inl q)
    · exact .inr q
    · exact .inl (.inr (.inl q))
    · exact .inl (.inr (.inr q))
  · rcases q with q | q
    · exact hd b q
    · exact ⟨fun r => by have := mo.lt b (.inl r); have := q.1; omega, fun r => by have := mo.lt b (.inr r); have := q.1; omega⟩
theorem Zm.sub (z : Zm W r e m σ J V w) (hV : ∀ c, V' c → V c) : Zm W r e m σ J V' w := by
  obtain ⟨O, G, σ', h, c, mo, hd⟩ := z
  exact ⟨O, G, σ', h.sub fun b q => q.imp (hV b) id, c, mo, fun b q => hd b (hV b q)⟩
theorem Zm.emp (z : Zm W r e m σ J V w) (hk : Kp Emp w w') : Zm W r e m σ J V w' := (z.gro (S := Emp) hk fun b q => q.elim).sub fun c q => .inl q
theorem Zm.new {c : Nat} (z : Zm W r e m σ J V w) (hk : Kp Emp w w') (h1 : w.heap.size ≤ c) (h2 : c < w'.heap.size) : Zm W r e m σ J (fun b => V b ∨ b = c) w' := (z.gro (S := Emp) hk fun b q => q.elim).sub fun b q => q.imp id fun q => by subst q; exact ⟨h1, h2⟩
/-- a request is sent to the rig -/
theorem Zm.send (z : Zm W r e m σ J V w) (hq : σ.seq ≤ 1000000000) (hx : Ar bC 1 F w v bs) (hF : ∀ b, F b → b < w.heap.size) (hB : By bs)
    (hK : ∀ w' v' b S σ' O G, Core σ σ' → RgI park σ' J → σ'.loose = 0 → Lz W (fun c => (V c ∨ c = b) ∨ O c ∨ G c) w' r e (hndS park bs σ' J).1 (hndS park bs σ' J).2.1 → Mo O G w' m σ.ms → (∀ c, V c ∨ c = b → ¬ O c ∧ ¬ G c) → Sl bC 1 w' 5 (some b) v' (eR (hndS park bs σ' J).2.2) → w.heap.size ≤ b → Kp S w w' → (∀ c, V c → ¬ S c) → (∀ c, c < W.heap.size → ¬ S c) → K v' w') : cl Tryz.prog 24 #[P r 0, v] K w := by
  obtain ⟨O, G, σ', h, c, mo, hd⟩ := z
  have hseq := c.seq
  refine h.send (by omega) hx hF hB fun w1 v1 b1 S z1 sl1 hb1 hk1 hS hW => ?_
  refine hK w1 v1 b1 S σ' O G c h.i h.lo (z1.sub fun b q => ?_) (mo.kp hk1 fun b q => ⟨fun r => hS b (.inr (.inl r)) q, fun r => hS b (.inr (.inr r)) q⟩) (fun b q => ?_) sl1 hb1 hk1 (fun c q => hS c (.inl q)) hW
  · rcases q with (q | q) | q | q
    · exact .inl (.inl q)
    · exact .inr q
    · exact .inl (.inr (.inl q))
    · exact .inl (.inr (.inr q))
  · rcases q with q | q
    · exact hd b q
    · subst q
      exact ⟨fun r => by have := mo.lt b (.inl r); omega, fun r => by have := mo.lt b (.inr r); omega⟩
/-- the rig answers questions -/
theorem Zm.srvR (h : RgI park σ J) (hlo : σ.loose = 0) (hs : σ.seq ≤ 1000000000) : Srv W (sendV r) (ansE σ J) (Zm W r e m σ J) where
  k := fun z => z.k
  lt := fun z => z.lt
  gro := fun z hk hS => z.gro hk hS
  sub := fun z hV => z.sub hV
  len := fun q => hnd_len h
  call := by
    intro V F w v q K z hq ha hF hK
    refine ⟨okSend, ?_⟩
    show cl Tryz.prog 24 #[P r 0, v] K w
    refine z.send hs ha hF hq.by_ fun w1 v1 b1 S σ' O G c i lo z1 mo hd sl1 hb1 hk1 hS hW => ?_
    have hseq := c.seq
    obtain ⟨e1, e2, e3⟩ := hq.hnd i lo (by omega)
    have ea := ansE_core hq h hlo (by omega) i lo (by omega) c
    rw [e2] at z1
    have sl2 : Sl bC 1 w1 5 (some b1) v1 (ansE σ J q) := by rw [← ea]; exact sl1
    exact hK w1 v1 b1 S ⟨O, G, _, z1, c.trans e3, mo, hd⟩ sl2 hb1 hk1 hS hW
set_option maxRecDepth 100000 in
theorem okHdl : okF Tryz.prog 25 = true := by kernel_rfl
/-- the bound method of the model -/
abbrev hdlV (m : Nat) : Value := .func (.func 25) #[P m 0] #[]
/-- a request is given to the model, whatever the rig's state -/
theorem Lz.hdl {σr : Sg} {Jr' : Jr} (h : Lz W (fun b => V b ∨ O b ∨ G b) w r e σr Jr') (mo : Mo O G w m σ.ms) (hd : ∀ b, V b → ¬ O b ∧ ¬ G b) (g : SGd park σ) (hx : Ar bC 1 F w v bs) (hF : ∀ b, F b → b < w.heap.size) (hB : By bs) (hl : bs.length ≤ 1000000000000)
    (hK : ∀ w' v' b S O', Lz W (fun c => (V c ∨ c = b) ∨ O' c ∨ G c) w' r e σr Jr' → Mo O' G w' m (mdS bs σ).1.ms → (∀ c, V c ∨ c = b → ¬ O' c ∧ ¬ G c) → Sl bC 1 w' 5 (some b) v' (mdS bs σ).2 → w.heap.size ≤ b → Kp S w w' → (∀ c, V c → ¬ S c) → (∀ c, c < W.heap.size → ¬ S c) → K v' w') : cl Tryz.prog 25 #[P m 0, v] K w := by
  have hlt := h.lt
  refine handleM_ok mo g hx hF hB hl fun w1 v1 b1 O1 mw sl1 hb1 nb1 => ?_
  have z1 := h.gro mw.k fun b q => .inr (.inl q)
  refine hK w1 v1 b1 O O1 (z1.sub fun b q => ?_) mw.mo (fun b q => ?_) sl1 hb1 mw.k (fun c q => (hd c q).1) fun c hc q => ?_
  · rcases q with (q | q) | q | q
    · exact .inl (.inl q)
    · subst q
      exact .inr ⟨hb1, sl1.lt⟩
    · rcases mw.dn b q with q | q
      · exact .inl (.inr (.inl q))
      · exact .inr q
    · exact .inl (.inr (.inr q))
  · rcases q with q | q
    · refine ⟨fun r => ?_, (hd b q).2⟩
      rcases mw.dn b r with r | r
      · exact (hd b q).1 r
      · have := hlt b (.inl q); have := r.1; omega
    · subst q
      exact ⟨nb1, fun r => by have := mo.lt b (.inr r); omega⟩
  · have := h.ge c (.inr (.inl q)); omega
/-- a request is given to the model -/
theorem Zm.hdl (z : Zm W r e m σ J V w) (g : SGd park σ) (hx : Ar bC 1 F w v bs) (hF : ∀ b, F b → b < w.heap.size) (hB : By bs) (hl : bs.length ≤ 1000000000000)
    (hK : ∀ w' v' b S σ' O G, Core σ σ' → Lz W (fun c => (V c ∨ c = b) ∨ O c ∨ G c) w' r e σ' J → Mo O G w' m (mdS bs σ).1.ms → (∀ c, V c ∨ c = b → ¬ O c ∧ ¬ G c) → Sl bC 1 w' 5 (some b) v' (mdS bs σ).2 → w.heap.size ≤ b → Kp S w w' → (∀ c, V c → ¬ S c) → (∀ c, c < W.heap.size → ¬ S c) → K v' w') : cl Tryz.prog 25 #[P m 0, v] K w := by
  obtain ⟨O, G, σ', h, c, mo, hd⟩ := z
  exact h.hdl mo hd g hx hF hB hl fun w1 v1 b1 S O1 z1 mo1 hd1 sl1 hb1 hk1 hS hW => hK w1 v1 b1 S σ' O1 G c z1 mo1 hd1 sl1 hb1 hk1 hS hW
theorem QOk.md (hq : QOk q) : mdS (enc q) σ = (σ, quM q σ) := by
  have hd : dec (enc q) = (q, 0) := hq.rb
  have hi := hq.isq
  unfold isQ at hi
  simp only [Bool.and_eq_true, decide_eq_true_eq] at hi
  unfold mdS
  cases hm : mRead (enc q) with
  | none =>
    have := mRead_none hm
    rw [hd] at this
    cases this
  | some q' =>
    have := mRead_some hm
    rw [hd] at this
    have : q = q' := congrArg Prod.fst this
    subst this
    exact mdO_q (by omega)
/-- and so does the model, alike -/
theorem Zm.srvM (h : RgI park σ J) (hlo : σ.loose = 0) (hs : σ.seq ≤ 1000000000) : Srv W (hdlV m) (ansE σ J) (Zm W r e m σ J) where
  k := fun z => z.k
  lt := fun z => z.lt
  gro := fun z hk hS => z.gro hk hS
  sub := fun z hV => z.sub hV
  len := fun q => hnd_len h
  call := by
    intro V F w v q K z hq ha hF hK
    refine ⟨okHdl, ?_⟩
    show cl Tryz.prog 25 #[P m 0, v] K w
    have el : (enc q).length ≤ 1000000000000 := by
      have := enc_len (q := q) (by obtain ⟨op, id, at', sl, li, rfl, _⟩ := hq.ex; simp [qq])
      omega
    refine z.hdl h.g ha hF hq.by_ el fun w1 v1 b1 S σ' O G c z1 mo hd sl1 hb1 hk1 hS hW => ?_
    rw [hq.md] at mo sl1
    obtain ⟨e1, _, _⟩ := hq.hnd h hlo (by omega)
    have sl2 : Sl bC 1 w1 5 (some b1) v1 (ansE σ J q) := by
      unfold ansE
      rw [e1, eR_ansQ]
      exact sl1
    exact hK w1 v1 b1 S ⟨O, G, σ', z1, c, mo, hd⟩ sl2 hb1 hk1 hS hW
end
end Go.Proofs.Qxb6500896aGreat
