import Derived.Test.Qxb6500896aGreatM29
import Derived.Test.Qxb6500896aGreatN16
namespace Go.Proofs.Qxb6500896aGreat
open Go.Sh Go.RowKit
set_option linter.unusedVariables false
set_option linter.unusedSimpArgs false

/-- a journal of a run is opened again -/
theorem opn_live2 {σ : Sg} {J : Jr} (hi : RgI park σ J) (hlo : σ.loose = 0) (ht : J.log.length ≤ 1000) : ∃ σ2 J2, opnS park J = (J2, some σ2, 0) ∧ Core σ σ2 ∧ RgI park σ2 J2 ∧ σ2.loose = 0 := by
  obtain ⟨σ1, r1, r2⟩ := hi.rp
  have h0 : ∃ σ0, opn0 park J = some σ0 ∧ rplL park J.log σ0 = some σ1 := by
    unfold opn1 at r1
    cases h : opn0 park J with
    | none => rw [h] at r1; cases r1
    | some σ0 => rw [h] at r1; exact ⟨σ0, rfl, r1⟩
  obtain ⟨σ0, z0, z1⟩ := h0
  have h00 : σ0.down = false ∧ σ0.loose = 0 ∧ σ0.res = J.has ∧ σ0.sp = 0 := by
    unfold opn0 at z0
    cases hh : J.has with
    | true =>
      rw [hh, if_pos rfl] at z0
      split at z0
      · rw [← Option.some.inj z0]; exact ⟨rfl, rfl, rfl, rfl⟩
      · cases z0
    | false =>
      rw [hh, if_neg (by decide)] at z0
      rw [← Option.some.inj z0]; exact ⟨rfl, rfl, rfl, rfl⟩
  obtain ⟨a1, a2, a3, a4⟩ := h00
  obtain ⟨b1, b2, b3, b4⟩ := rplL_o z1 (by omega) (by omega)
  have i1 : RgI park { σ1 with tail := (J.log.length : Nat) } J := ⟨r2.gd hi.g, by show σ1.down = false; rw [b1, a1], hi.off, hi.lf, rfl, hi.sf, by show σ1.loose = _; rw [b2, a2, ← hi.lo, hlo], hi.jb, ⟨σ1, r1, ⟨rfl, rfl, rfl, rfl⟩⟩⟩
  have c1 : Core σ { σ1 with tail := (J.log.length : Nat) } := ⟨r2.now, r2.rs, r2.ls, r2.seq⟩
  have l1 : ({ σ1 with tail := ((J.log.length : Nat) : Int) } : Sg).loose = 0 := by show σ1.loose = 0; rw [b2, a2]
  have ho : opnS park J = ((aftS park { σ1 with tail := (J.log.length : Nat) } J).2.1, some (aftS park { σ1 with tail := (J.log.length : Nat) } J).1, 0) := by
    unfold opnS
    rw [if_neg (by rw [hi.off]; decide), if_neg (by rw [hi.lf]; decide), r1]
    simp only [due0 hi.lf]
    rw [if_pos]
    unfold aftS
    split
    · rfl
    · rcases snapS0 i1 with ⟨q, _⟩ | q
      · rw [q, if_neg (show ¬ (17 : Int) = 19 by decide)]
      · rw [q, if_neg (show ¬ (0 : Int) = 19 by decide)]
  refine ⟨_, _, ho, ?_⟩
  unfold aftS
  split
  · exact ⟨c1, i1, l1⟩
  · rcases snapS0 i1 with ⟨q, _⟩ | q
    · rw [q]; exact ⟨c1, i1, l1⟩
    · rw [q]; exact ⟨c1.trans ⟨rfl, rfl, rfl, rfl⟩, i1.snap park_cv park_mb, rfl⟩
/-! ### a rig and an engine beside it -/
structure LzE (W : World) (V : Nat → Prop) (w : World) (r e1 : Nat) (σ1 : Sg) (J1 : Jr) (e2 : Nat) (σ2 : Sg) (J2 : Jr) : Prop where
  ex : ∃ M m1 m2, (En M w e1 m1 park σ1 J1 ∧ En M w e2 m2 park σ2 J2) ∧ Row w r 47 [P m1.j 0, P e1 0] ∧ (∀ b, M b → W.heap.size ≤ b) ∧ (∀ b, OwnE e1 m1 b → ¬ OwnE e2 m2 b) ∧
    (∀ c, V c → M c ∧ (¬ OwnE e1 m1 c ∧ ¬ OwnE e2 m2 c) ∧ c ≠ r)
  k : Kp Emp W w
  i1 : RgI park σ1 J1
  i2 : RgI park σ2 J2
  lo1 : σ1.loose = 0
  lo2 : σ2.loose = 0
  r0 : W.heap.size ≤ r
section
variable {W w w' w0 : World} {V V' S F : Nat → Prop} {r e1 e2 c : Nat} {σ1 σ2 : Sg} {J1 J2 : Jr} {K : Value → World → Prop} {v : Value} {bs : List Int} {M : Nat → Prop} {m : Me} {q : Rq} {l : List Value}
theorem LzE.fst (z : LzE W V w r e1 σ1 J1 e2 σ2 J2) : Lz W V w r e1 σ1 J1 := by
  obtain ⟨M, m1, m2, ⟨h1, h2⟩, q1, hM, hd, hV⟩ := z.ex
  exact ⟨⟨M, m1, h1, q1, hM, fun c hc => ⟨(hV c hc).1, (hV c hc).2.1.1, (hV c hc).2.2⟩⟩, z.k, z.i1, z.lo1, z.r0⟩
theorem LzE.gro (z : LzE W V w r e1 σ1 J1 e2 σ2 J2) (hk : Kp S w w') (hS : ∀ b, S b → V b) : LzE W (fun b => V b ∨ Nb w w' b) w' r e1 σ1 J1 e2 σ2 J2 := by
  obtain ⟨M, m1, m2, ⟨h1, h2⟩, q1, hM, hd, hV⟩ := z.ex
  have hWz := z.k.size
  have hx : Ext M (fun b => M b ∨ Nb w w' b) w w' := ⟨fun b q => .inl q, fun b q => q.imp id (·.1), hk.size, fun b q => by
    rcases q with q | q
    · have := h1.lt b q; have := hk.size; omega
    · exact q.2⟩
  refine ⟨⟨_, m1, m2, ⟨h1.ext hx hk (fun b q _ => (hV b (hS b q)).1) fun b q q2 => (hV b (hS b q2)).2.1.1 q, h2.ext hx hk (fun b q _ => (hV b (hS b q)).1) fun b q q2 => (hV b (hS b q2)).2.1.2 q⟩,
    hk.row q1 fun q => (hV r (hS r q)).2.2 rfl, fun b q => ?_, hd, fun c q => ?_⟩, z.k.then hk fun b hb q => by have := hM b (hV b (hS b q)).1; omega, z.i1, z.i2, z.lo1, z.lo2, z.r0⟩
  · rcases q with q | q
    · exact hM b q
    · have := q.1; omega
  · rcases q with q | q
    · exact ⟨.inl (hV c q).1, (hV c q).2⟩
    · have := q.1
      have a1 := q1.lt
      exact ⟨.inr q, ⟨fun q2 => by have := h1.lt _ (h1.own q2); omega, fun q2 => by have := h2.lt _ (h2.own q2); omega⟩, by omega⟩
theorem LzE.sub (z : LzE W V w r e1 σ1 J1 e2 σ2 J2) (h : ∀ c, V' c → V c) : LzE W V' w r e1 σ1 J1 e2 σ2 J2 := by
  obtain ⟨M, m1, m2, hh, hq, hM, hd, hV⟩ := z.ex
  exact ⟨⟨M, m1, m2, hh, hq, hM, hd, fun c hc => hV c (h c hc)⟩, z.k, z.i1, z.i2, z.lo1, z.lo2, z.r0⟩
theorem LzE.emp (z : LzE W V w r e1 σ1 J1 e2 σ2 J2) (hk : Kp Emp w w') : LzE W V w' r e1 σ1 J1 e2 σ2 J2 := by
  obtain ⟨M, m1, m2, ⟨h1, h2⟩, q1, hM, hd, hV⟩ := z.ex
  exact ⟨⟨M, m1, m2, ⟨h1.kp' hk, h2.kp' hk⟩, hk.row' q1, hM, hd, hV⟩, z.k.trans hk, z.i1, z.i2, z.lo1, z.lo2, z.r0⟩
theorem LzE.lt (z : LzE W V w r e1 σ1 J1 e2 σ2 J2) : ∀ c, V c → c < w.heap.size := fun c hc => by
  obtain ⟨M, m1, m2, hh, hq, hM, hd, hV⟩ := z.ex
  exact hh.1.lt c (hV c hc).1
theorem ebM_of (h : En M w e1 m park σ1 J1) (i : RgI park σ1 J1) (lo : σ1.loose = 0) (hq : σ1.seq ≤ 1000000000) : EB σ1 := by
  have hl := h.jn.ok.tot
  have hl2 := len_tot J1.log
  have ht := i.tl
  have hs := i.g.seq
  have hn := i.g.now
  exact ⟨by omega, by omega, by omega, by omega, by omega, by omega⟩
/-- a request is handled by the second -/
theorem LzE.handle (z : LzE W V w r e1 σ1 J1 e2 σ2 J2) (hq : σ2.seq ≤ 1000000000) (hx : Ar bC 1 F w v bs) (hF : ∀ b, F b → b < w.heap.size) (hB : By bs)
    (hK : ∀ w' v' b S, LzE W (fun c => V c ∨ c = b) w' r e1 σ1 J1 e2 (hndS park bs σ2 J2).1 (hndS park bs σ2 J2).2.1 → Sl bC 1 w' 5 (some b) v' (eR (hndS park bs σ2 J2).2.2) → w.heap.size ≤ b → Kp S w w' → (∀ c, V c → ¬ S c) → (∀ c, c < W.heap.size → ¬ S c) → K v' w') : cl Tryz.prog 40 #[P e2 0, v] K w := by
  obtain ⟨M, m1, m2, ⟨h1, h2⟩, q1, hM, hd, hV⟩ := z.ex
  have eb := ebM_of h2 z.i2 z.lo2 hq
  have hi := z.i2.hnd park_cv park_mb hB (by omega)
  refine hndE_ok park_cv (by decide) (fun _ => z.i2.g) eb h2 hx hF hB fun w1 M1 m2' v1 b1 hx1 hk1 hj1 ho1 h2' s1 fb1 mb1 => ?_
  have hWz := z.k.size
  have h1' := h1.ext hx1 hk1 (fun b q _ => h2.own q) fun b q q2 => hd b q q2
  refine hK w1 v1 b1 (OwnE e2 m2) ⟨⟨M1, m1, m2', ⟨h1', h2'⟩, hk1.row q1 (h2.nRig q1), fun b q => ?_, fun b q qq => ?_, fun c q => ?_⟩, z.k.then hk1 fun b hb q => ?_, z.i1, hi.1, z.lo1, hi.2.1, z.r0⟩ s1 fb1.1 hk1 (fun c q => (hV c q).2.1.2) fun c hc q => ?_
  · rcases hx1.new b q with q | q
    · exact hM b q
    · omega
  · rcases ho1 b qq with qq | qq
    · exact hd b q qq
    · have := h1.lt b (h1.own q); omega
  · have a1 := q1.lt
    rcases q with q | q
    · refine ⟨hx1.sub c (hV c q).1, ⟨(hV c q).2.1.1, fun q2 => ?_⟩, (hV c q).2.2⟩
      rcases ho1 c q2 with q2 | q2
      · exact (hV c q).2.1.2 q2
      · have := h1.lt c (hV c q).1; omega
    · subst q
      have := fb1.1
      exact ⟨mb1, ⟨fun q => by have := h1.lt _ (h1.own q); omega, fb1.2.2⟩, by omega⟩
  · have := hM b (h2.own q); omega
  · have := hM c (h2.own q); omega
set_option maxRecDepth 100000 in
theorem okHandM : okF Tryz.prog 40 = true := by kernel_rfl
/-- the bound method of an engine -/
abbrev handV (e : Nat) : Value := .func (.func 40) #[P e 0] #[]
/-- the second answers questions -/
theorem LzE.srv (h : RgI park σ2 J2) (hlo : σ2.loose = 0) (hs : σ2.seq ≤ 1000000000) : Srv W (handV e2) (ansE σ2 J2) (fun V w => ∃ σ', LzE W V w r e1 σ1 J1 e2 σ' J2 ∧ Core σ2 σ') where
  k := fun ⟨σ', z, c⟩ => z.k
  lt := fun ⟨σ', z, c⟩ => z.lt
  gro := fun ⟨σ', z, c⟩ hk hS => ⟨σ', z.gro hk hS, c⟩
  sub := fun ⟨σ', z, c⟩ hV => ⟨σ', z.sub hV, c⟩
  len := fun q => hnd_len h
  call := by
    intro V F w v q K ⟨σ', z, c⟩ hq ha hF hK
    have hseq := c.seq
    obtain ⟨x1, x2, x3⟩ := hq.hnd z.i2 z.lo2 (by omega)
    have ea := ansE_core hq h hlo (by omega) z.i2 z.lo2 (by omega) c
    refine ⟨okHandM, ?_⟩
    show cl Tryz.prog 40 #[P e2 0, v] K w
    refine z.handle (by omega) ha hF hq.by_ fun w1 v1 b1 S z1 sl1 hb1 hk1 hS hW => ?_
    rw [x2] at z1
    have sl2 : Sl bC 1 w1 5 (some b1) v1 (ansE σ2 J2 q) := by rw [← ea]; exact sl1
    exact hK w1 v1 b1 S ⟨_, z1, c.trans x3⟩ sl2 hb1 hk1 hS hW
/-- a second engine is opened on a copy of the journal -/
theorem second_ok {j : Nat} (h : En M w e1 m park σ1 J1) (hj : j = m.j) (hr : Row w r 47 [P m.j 0, P e1 0]) (hM : ∀ b, M b → W.heap.size ≤ b) (hV : ∀ c, V c → M c ∧ ¬ OwnE e1 m c ∧ c ≠ r) (k : Kp Emp W w) (i : RgI park σ1 J1) (lo : σ1.loose = 0) (r0 : W.heap.size ≤ r) (ht : J1.log.length ≤ 1000)
    {X : Value → World → Prop} {Jp : World → Prop} (hJ : ∀ w', Kp Emp w w' → Jp w')
    (hK : ∀ w' e2 σ2 J2, LzE W V w' r e1 σ1 J1 e2 σ2 J2 → Core σ1 σ2 → Kp Emp w w' → X (.tuple #[P e2 0, .nilIface]) w') :
    cl Tryz.prog 21 #[] (fun t28 w' => Jp w' ∧ cl Tryz.prog 39 #[P j 0] (fun t33 w => cl Tryz.prog 38 #[t28, t33] X w) w') w := by
  obtain ⟨σ2, J2, o1, o2, o3, o4⟩ := opn_live2 i lo ht
  have kz := k.size
  refine park_ok fun w1 l1 hk1 hc1 => ⟨hJ w1 hk1, ?_⟩
  have h1 := h.kp' hk1
  have sz1 := hk1.size
  rw [hj]
  refine clone_ok h1.jn fun w2 M2 j2 lob2 hx2 hk2 ho2 jn2 => ?_
  have sz2 := hk2.size
  have hj2 := ho2 j2 (.inl rfl)
  refine open_ok (hc1.kp' hk2) park_v (by decide) jn2 (fun b q => by have := q.2; omega) i.jb (fun hno => by rw [o1] at hno; cases hno) (fun σ' hs w3 M3 e2 m2 hx3 hk3 hmj hown hel he3 => ?_)
  rw [o1] at hs he3
  have e0 := Option.some.inj hs
  subst e0
  have hx : Ext M M3 w1 w3 := hx2.trans hx3
  have k13 : Kp (OwnJ j2 lob2) w1 w3 := hk2.none.trans hk3
  have hown' : ∀ b, OwnE e2 m2 b → w1.heap.size ≤ b := fun b q => by
    rcases hown b q with q | q
    · exact ho2 b q
    · omega
  have h3 := h1.ext hx k13 (fun b q hb => by have := ho2 b q; omega) fun b q q2 => by have := h1.lt b (h1.own q); have := ho2 b q2; omega
  have hrl := hr.lt
  refine hK w3 e2 _ J2 ⟨⟨M3, m, m2, ⟨h3, he3⟩, k13.row (hk1.row' hr) (fun q => by have := ho2 r q; omega), fun b q => ?_, fun b q q2 => ?_, fun c hc => ?_⟩, (k.trans hk1).then k13 fun b hb q => by have := ho2 b q; omega, i, o3, lo, o4, r0⟩ o2 (hk1.then k13 fun b hb q => by have := ho2 b q; omega)
  · rcases hx.new b q with q | q
    · exact hM b q
    · omega
  · have := h1.lt b (h1.own q); have := hown' b q2; omega
  · refine ⟨hx.sub c (hV c hc).1, ⟨(hV c hc).2.1, fun q => ?_⟩, (hV c hc).2.2⟩
    have := h1.lt c (hV c hc).1; have := hown' c q; omega
end
end Go.Proofs.Qxb6500896aGreat
