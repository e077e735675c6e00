import Derived.Test.Qxb6500896aGreatDoorN15
import Derived.Test.Qxb6500896aGreatDoorN20
namespace Go.Proofs.Qxb6500896aGreatDoor
open Go.Sh Go.RowKit
set_option linter.unusedVariables false
set_option linter.unusedSimpArgs false

/-! ### what a failure leaves behind -/
/-- closed under what the park's state leaves open -/
def CoreC (Q : Sg → Prop) : Prop := ∀ a b, Core a b → Q a → Q b
/-- a journal, all of it safe, from which a state of the kind comes back -/
structure RgD (Q : Sg → Prop) (J : Jr) : Prop where
  sf : J.safe = J.log.length
  jb : JBy J
  rp : ∃ σ1, opn1 park J = some σ1 ∧ Q σ1
/-- an engine that is up, its journal, and what a failure may leave -/
structure RgQ (Q : Sg → Prop) (σ : Sg) (J : Jr) : Prop where
  g : SGd park σ
  dn : σ.down = false
  off : J.off = false
  tl : σ.tail = ((J.log.length : Nat) : Int)
  sf : J.safe ≤ J.log.length
  lo : σ.loose = (((J.log.length - J.safe : Nat)) : Int)
  jb : JBy J
  rp : ∀ n, J.safe ≤ n → n ≤ J.log.length → ∃ σ1, opn1 park { J with log := J.log.take n } = some σ1 ∧ Q σ1 ∧ (n = J.log.length → Core σ σ1)
theorem opn1_eq {J J' : Jr} (h1 : J'.has = J.has) (h2 : J'.snap = J.snap) (h3 : J'.log = J.log) : opn1 park J' = opn1 park J := by
  unfold opn1 opn0
  rw [h1, h2, h3]
section
variable {Q Q' : Sg → Prop} {σ σ' : Sg} {J J' : Jr} {q : Rq}
theorem RgD.mono (h : RgD Q J) (hQ : ∀ s, Q s → Q' s) : RgD Q' J := by
  obtain ⟨σ1, r1, r2⟩ := h.rp
  exact ⟨h.sf, h.jb, σ1, r1, hQ _ r2⟩
theorem RgQ.mono (h : RgQ Q σ J) (hQ : ∀ s, Q s → Q' s) : RgQ Q' σ J := by
  refine ⟨h.g, h.dn, h.off, h.tl, h.sf, h.lo, h.jb, fun n a b => ?_⟩
  obtain ⟨σ1, r1, r2, r3⟩ := h.rp n a b
  exact ⟨σ1, r1, hQ _ r2, r3⟩
theorem RgQ.all (h : RgQ Q σ J) : ∃ σ1, opn1 park J = some σ1 ∧ Q σ1 ∧ Core σ σ1 := by
  obtain ⟨σ1, r1, r2, r3⟩ := h.rp J.log.length h.sf (Nat.le_refl _)
  refine ⟨σ1, ?_, r2, r3 rfl⟩
  rw [← r1]
  exact opn1_eq (J' := J) (J := { J with log := J.log.take J.log.length }) rfl rfl (by show J.log = J.log.take J.log.length; rw [List.take_length])
theorem RgQ.qs (hC : CoreC Q) (h : RgQ Q σ J) : Q σ := by
  obtain ⟨σ1, _, r2, r3⟩ := h.all
  exact hC _ _ r3.symm r2
theorem RgQ.same (h : RgQ Q σ J) (hc : Core σ σ') (h1 : σ'.down = σ.down) (h2 : σ'.tail = σ.tail) (h3 : σ'.loose = σ.loose) : RgQ Q σ' J := by
  refine ⟨hc.gd h.g, by rw [h1]; exact h.dn, h.off, by rw [h2]; exact h.tl, h.sf, by rw [h3]; exact h.lo, h.jb, fun n a b => ?_⟩
  obtain ⟨σ1, r1, r2, r3⟩ := h.rp n a b
  exact ⟨σ1, r1, r2, fun e => hc.symm.trans (r3 e)⟩
theorem RgQ.ref (h : RgQ Q σ J) (code : Int) : RgQ Q (refS code σ) J := h.same (refS_same code σ).core (refS_o code σ).1 (refS_o code σ).2.1 (refS_o code σ).2.2.1
/-- the armed failure does not matter -/
theorem RgQ.arm {l k : Int} (h : RgQ Q σ J) : RgQ Q σ { J with left := l, keep := k } :=
  ⟨h.g, h.dn, h.off, h.tl, h.sf, h.lo, ⟨h.jb.s, h.jb.l, h.jb.n⟩, fun n a b => h.rp n a b⟩
theorem RgQ.due (h : RgQ Q σ J) : RgQ Q σ (dueJ J) := h.arm (l := _) (k := J.keep)
theorem RgQ.fail (h : RgQ Q σ J) (k : Int) : RgD Q (failJ J k) := by
  have hs := h.sf
  have hn : J.safe ≤ failN J k ∧ failN J k ≤ J.log.length := by unfold failN; omega
  obtain ⟨σ1, r1, r2, _⟩ := h.rp (failN J k) hn.1 hn.2
  refine ⟨?_, ⟨h.jb.s, fun x hx => h.jb.l x (List.mem_of_mem_take hx), h.jb.n⟩, σ1, ?_, r2⟩
  · show failN J k = (J.log.take (failN J k)).length
    rw [List.length_take]; omega
  · rw [← r1]; exact opn1_eq rfl rfl rfl
theorem RgQ.d (h : RgQ Q σ J) (hl : σ.loose = 0) : RgD Q J := by
  obtain ⟨σ1, r1, r2, _⟩ := h.all
  have := h.lo
  have := h.sf
  exact ⟨by omega, h.jb, σ1, r1, r2⟩
theorem RgQ.tight (h : RgQ Q σ J) (hl : σ.loose = 0) : RgQ (Core σ) σ J := by
  obtain ⟨σ1, r1, r2, r3⟩ := h.all
  have h1 := h.lo
  have h2 := h.sf
  refine ⟨h.g, h.dn, h.off, h.tl, h.sf, h.lo, h.jb, fun n a b => ?_⟩
  obtain ⟨σ2, s1, s2, s3⟩ := h.rp n a b
  exact ⟨σ2, s1, s3 (by omega), s3⟩
/-- after a snapshot all is as it was -/
theorem RgQ.snap (hC : CoreC Q) (h : RgQ Q σ J) : RgQ Q (snS σ) (snJ park σ J) := by
  have hc : chkImg park (img park σ) = true := h.g.chk park_cv
  have hd := decImg_enc (imE park_cv park_mb h.g)
  have e0 : opn0 park (snJ park σ J) = some { (sg0 park).im (img park σ) with res := true } := by
    have e1 : (snJ park σ J).has = true := rfl
    have e2 : (snJ park σ J).snap = encImg (img park σ) := rfl
    unfold opn0
    rw [e2, hd, if_pos e1, if_pos ⟨rfl, hc⟩]
  have hq := h.qs hC
  refine ⟨h.g, h.dn, h.off, rfl, Nat.le_refl _, rfl, ⟨encImg_by _, (fun x hx => by cases hx), encImg_le park_cv park_mb h.g⟩, fun n a b => ⟨{ (sg0 park).im (img park σ) with res := true }, ?_, ?_, fun _ => ⟨rfl, rfl, rfl, rfl⟩⟩⟩
  · have : opn1 park (snJ park σ J) = some { (sg0 park).im (img park σ) with res := true } := by
      unfold opn1
      rw [e0]
      rfl
    rw [← this]
    exact opn1_eq rfl rfl (by show ([] : List (List Int)).take n = []; simp)
  · exact hC σ _ ⟨rfl, rfl, rfl, rfl⟩ hq
/-- a snapshot is tried -/
theorem RgQ.snapS (hC : CoreC Q) (h : RgQ Q σ J) : ((Go.Proofs.Qxb6500896aGreatDoor.snapS park σ J).2.2 = 0 ∧ RgQ Q (Go.Proofs.Qxb6500896aGreatDoor.snapS park σ J).1 (Go.Proofs.Qxb6500896aGreatDoor.snapS park σ J).2.1 ∧ (Go.Proofs.Qxb6500896aGreatDoor.snapS park σ J).1.loose = 0) ∨ (Go.Proofs.Qxb6500896aGreatDoor.snapS park σ J = (σ, J, 17)) ∨ ((Go.Proofs.Qxb6500896aGreatDoor.snapS park σ J).2.2 = 19 ∧ (Go.Proofs.Qxb6500896aGreatDoor.snapS park σ J).1.down = true ∧ RgD Q (Go.Proofs.Qxb6500896aGreatDoor.snapS park σ J).2.1 ∧ (Go.Proofs.Qxb6500896aGreatDoor.snapS park σ J).2.1.off = true) := by
  have ho : ¬ J.off = true := by rw [h.off]; decide
  by_cases h2 : J.ms < (((encImg (img park σ)).length : Nat) : Int)
  · have e : snapJ J (encImg (img park σ)) = (J, 18) := by unfold snapJ; rw [if_neg ho, if_pos h2]
    unfold Go.Proofs.Qxb6500896aGreatDoor.snapS
    rw [e, if_neg (show ¬ (18 : Int) = 0 by decide), if_pos rfl]
    exact .inr (.inl rfl)
  · by_cases h3 : J.left = 1
    · refine .inr (.inr ?_)
      by_cases h4 : J.keep.tmod 2 = 1
      · have e : snapJ J (encImg (img park σ)) = (failJ { dueJ J with has := true, snap := encImg (img park σ), log := [], safe := 0 } J.keep, 19) := by unfold snapJ; rw [if_neg ho, if_neg h2, if_pos h3, if_pos h4]
        unfold Go.Proofs.Qxb6500896aGreatDoor.snapS
        rw [e, if_neg (show ¬ (19 : Int) = 0 by decide), if_neg (show ¬ (19 : Int) = 18 by decide)]
        exact ⟨rfl, rfl, (h.due.snap hC).fail _, rfl⟩
      · have e : snapJ J (encImg (img park σ)) = (failJ (dueJ J) J.keep, 19) := by unfold snapJ; rw [if_neg ho, if_neg h2, if_pos h3, if_neg h4]
        unfold Go.Proofs.Qxb6500896aGreatDoor.snapS
        rw [e, if_neg (show ¬ (19 : Int) = 0 by decide), if_neg (show ¬ (19 : Int) = 18 by decide)]
        exact ⟨rfl, rfl, h.due.fail _, rfl⟩
    · have e : snapJ J (encImg (img park σ)) = ({ dueJ J with has := true, snap := encImg (img park σ), log := [], safe := 0 }, 0) := by unfold snapJ; rw [if_neg ho, if_neg h2, if_neg h3]
      unfold Go.Proofs.Qxb6500896aGreatDoor.snapS
      rw [e, if_pos rfl]
      exact .inl ⟨rfl, h.due.snap hC, rfl⟩
/-- a step's end: up, or down with what is left -/
def Up (Q : Sg → Prop) (σ : Sg) (J : Jr) (c : Int) : Prop := (σ.down = false ∧ RgQ Q σ J ∧ c ≠ 19) ∨ (σ.down = true ∧ RgD Q J ∧ J.off = true ∧ c = 19)
theorem RgQ.room (hC : CoreC Q) (h : RgQ Q σ J) (n : Int) : Up Q (roomS park σ J n).1 (roomS park σ J n).2.1 (roomS park σ J n).2.2 := by
  unfold roomS
  by_cases h1 : n ≤ roomR J
  · rw [if_pos h1]; exact .inl ⟨h.dn, h, (show ¬ (0 : Int) = 19 by decide)⟩
  · rw [if_neg h1]
    by_cases h2 : σ.tail = 0
    · rw [if_pos h2]; exact .inl ⟨h.dn, h, (show ¬ (17 : Int) = 19 by decide)⟩
    · rw [if_neg h2]
      rcases h.snapS hC with ⟨c, r, l⟩ | e | ⟨c, d, r, o⟩
      · rw [if_pos c]
        refine .inl ⟨r.dn, r, ?_⟩
        simp only
        split
        · decide
        · decide
      · rw [e, if_neg (show ¬ (17 : Int) = 0 by decide)]
        exact .inl ⟨h.dn, h, (show ¬ (17 : Int) = 19 by decide)⟩
      · rw [if_neg (by rw [c]; decide)]
        exact .inr ⟨d, r, o, c⟩
theorem RgQ.aft (hC : CoreC Q) (h : RgQ Q σ J) (hl : σ.loose = 0) : Up Q (aftS park σ J).1 (aftS park σ J).2.1 (aftS park σ J).2.2 ∧ ((aftS park σ J).2.2 = 0 ∨ (aftS park σ J).2.2 = 19) ∧ ((aftS park σ J).2.2 = 0 → (aftS park σ J).1.loose = 0) := by
  unfold aftS
  by_cases h0 : σ.tail < park.se
  · rw [if_pos h0]; exact ⟨.inl ⟨h.dn, h, (show ¬ (0 : Int) = 19 by decide)⟩, .inl rfl, fun _ => hl⟩
  · rw [if_neg h0]
    rcases h.snapS hC with ⟨c, r, l⟩ | e | ⟨c, d, r, o⟩
    · rw [c, if_neg (show ¬ (0 : Int) = 19 by decide)]
      exact ⟨.inl ⟨r.dn, r, (show ¬ (0 : Int) = 19 by decide)⟩, .inl rfl, fun _ => l⟩
    · rw [e, if_neg (show ¬ (17 : Int) = 19 by decide)]
      exact ⟨.inl ⟨h.dn, h, (show ¬ (0 : Int) = 19 by decide)⟩, .inl rfl, fun _ => hl⟩
    · rw [c, if_pos rfl]
      exact ⟨.inr ⟨d, r, o, rfl⟩, .inr rfl, fun q => absurd q (show ¬ (19 : Int) = 0 by decide)⟩
/-- the state after a change -/
def Aft (q : Rq) (σ s : Sg) : Prop := s.now = (apS park q σ).1.now ∧ s.rs = (apS park q σ).1.rs ∧ s.ls = (apS park q σ).1.ls ∧ s.seq = σ.seq + 1
theorem Aft.core {q : Rq} {σ s s' : Sg} (h : Aft q σ s) (c : Core s s') : Aft q σ s' := ⟨by rw [c.now]; exact h.1, by rw [c.rs]; exact h.2.1, by rw [c.ls]; exact h.2.2.1, by rw [c.seq]; exact h.2.2.2⟩
theorem Aft.of {q : Rq} {σ σ2 s : Sg} (c : Core σ σ2) (h : Aft q σ2 s) : Aft q σ s := by
  obtain ⟨a1, a2, a3, a4⟩ := apS_core (C := park) (q := q) c
  exact ⟨by rw [h.1, a2], by rw [h.2.1, a3], by rw [h.2.2.1, a4], by rw [h.2.2.2, c.seq]⟩
/-- an entry is written -/
theorem RgQ.write (h : RgQ Q σ J) (hC : CoreC Q') (hN : XprN q) (hrb : Rb q) (hq : isC q.op = true) (hv : valid park σ.now q = 0) (h0 : (apS park q σ).2.code = 0) (hs : σ.seq + 1 ≤ 9223372036854775807) (hQ : ∀ s, Q s → Q' s) (hA : ∀ s, Aft q σ s → Q' s) :
    RgQ Q' { (apS park q σ).1 with seq := (apS park q σ).1.seq + 1, tail := (apS park q σ).1.tail + 1, loose := (apS park q σ).1.loose + 1 } { J with log := J.log ++ [ent (σ.seq + 1) q] } := by
  have hk := apS_keep park q σ
  have ho := apS_o park q σ
  have hsq := h.g.seq
  have hnow := h.g.now
  have hsf := h.sf
  refine ⟨?_, ?_, h.off, ?_, ?_, ?_, ⟨h.jb.s, ?_, h.jb.n⟩, fun n a b => ?_⟩
  · show Gd park ((apS park q σ).1.seq + 1) _ _ _
    rw [hk.2.1]
    exact apS_gd park_cv h.g hv hs h0
  · show (apS park q σ).1.down = false
    rw [ho.1]; exact h.dn
  · show (apS park q σ).1.tail + 1 = _
    rw [hk.2.2.1, h.tl]
    simp
  · show J.safe ≤ (J.log ++ [ent (σ.seq + 1) q]).length
    rw [List.length_append]; simp; omega
  · show (apS park q σ).1.loose + 1 = (((J.log ++ [ent (σ.seq + 1) q]).length - J.safe : Nat) : Int)
    rw [hk.2.2.2, h.lo]
    rw [List.length_append, List.length_singleton]
    omega
  · intro x hx
    rcases List.mem_append.1 hx with q1 | q1
    · exact h.jb.l x q1
    · rw [List.mem_singleton.1 q1]
      exact ent_by (by have := hN.op; omega)
  · replace a : J.safe ≤ n := a
    replace b : n ≤ (J.log ++ [ent (σ.seq + 1) q]).length := b
    rw [List.length_append, List.length_singleton] at b
    by_cases hn : n ≤ J.log.length
    · obtain ⟨σ1, r1, r2, r3⟩ := h.rp n a hn
      refine ⟨σ1, ?_, hQ _ r2, fun e => ?_⟩
      · rw [← r1]
        exact opn1_eq rfl rfl (by show (J.log ++ [ent (σ.seq + 1) q]).take n = J.log.take n; rw [List.take_append_of_le_length hn])
      · replace e : n = (J.log ++ [ent (σ.seq + 1) q]).length := e
        rw [List.length_append, List.length_singleton] at e
        omega
    · have hne : n = J.log.length + 1 := by omega
      obtain ⟨σ1, r1, _, r2⟩ := h.all
      have hcore := apS_core (C := park) (q := q) r2
      have hsr : rplS park (ent (σ.seq + 1) q) σ1 = some { (apS park q σ1).1 with seq := σ1.seq + 1, sp := w1 (apS park q σ1).1.sp } := by
        unfold rplS
        rw [par_rb ⟨by omega, hs⟩ hrb]
        rw [if_pos ⟨rfl, by simp only; rw [r2.seq]; omega, hq, by simp only; rw [r2.now]; exact hv, by simp only; rw [hcore.1]; exact h0⟩]
      have hlast : Core { (apS park q σ).1 with seq := (apS park q σ).1.seq + 1, tail := (apS park q σ).1.tail + 1, loose := (apS park q σ).1.loose + 1 } { (apS park q σ1).1 with seq := σ1.seq + 1, sp := w1 (apS park q σ1).1.sp } := ⟨hcore.2.1, hcore.2.2.1, hcore.2.2.2, by show σ1.seq + 1 = (apS park q σ).1.seq + 1; rw [r2.seq, hk.2.1]⟩
      refine ⟨{ (apS park q σ1).1 with seq := σ1.seq + 1, sp := w1 (apS park q σ1).1.sp }, ?_, hA _ ⟨hcore.2.1, hcore.2.2.1, hcore.2.2.2, by show σ1.seq + 1 = σ.seq + 1; rw [r2.seq]⟩, fun _ => hlast⟩
      have e0 : opn1 park { { J with log := J.log ++ [ent (σ.seq + 1) q] } with log := (J.log ++ [ent (σ.seq + 1) q]).take n } = opn1 park { J with log := J.log ++ [ent (σ.seq + 1) q] } :=
        opn1_eq rfl rfl (by show (J.log ++ [ent (σ.seq + 1) q]).take n = J.log ++ [ent (σ.seq + 1) q]; rw [List.take_of_length_le (by rw [List.length_append, List.length_singleton]; omega)])
      refine e0.trans ?_
      unfold opn1 at r1 ⊢
      have e0 : opn0 park { J with log := J.log ++ [ent (σ.seq + 1) q] } = opn0 park J := rfl
      rw [e0]
      cases h00 : opn0 park J with
      | none => rw [h00] at r1; cases r1
      | some σ0 =>
        rw [h00] at r1
        show rplL park (J.log ++ [ent (σ.seq + 1) q]) σ0 = _
        rw [rplL_snoc]
        have r1' : rplL park J.log σ0 = some σ1 := r1
        rw [r1']
        exact hsr
end
end Go.Proofs.Qxb6500896aGreatDoor
