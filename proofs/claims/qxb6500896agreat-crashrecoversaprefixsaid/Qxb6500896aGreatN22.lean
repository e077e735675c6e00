import Derived.Test.Qxb6500896aGreatN21
namespace Go.Proofs.Qxb6500896aGreat
open Go.Sh Go.RowKit
set_option linter.unusedVariables false
set_option linter.unusedSimpArgs false

section
variable {Q Q' : Sg → Prop} {σ σ' : Sg} {J J' : Jr} {q : Rq} {bs : List Int}
theorem room_n (n : Int) (h : (roomS park σ J n).2.2 = 0) : n ≤ roomR (roomS park σ J n).2.1 := by
  unfold roomS at h ⊢
  by_cases h1 : n ≤ roomR J
  · rw [if_pos h1]; exact h1
  · rw [if_neg h1] at h ⊢
    by_cases h2 : σ.tail = 0
    · rw [if_pos h2] at h; exact absurd h (show ¬ (17 : Int) = 0 by decide)
    · rw [if_neg h2] at h ⊢
      by_cases h3 : (snapS park σ J).2.2 = 0
      · rw [if_pos h3] at h ⊢
        simp only at h ⊢
        by_cases h4 : roomR (snapS park σ J).2.1 < n
        · rw [if_pos h4] at h; exact absurd h (by decide)
        · omega
      · rw [if_neg h3] at h; exact absurd h h3
/-- the end of a request: up, and refused or done; or down, and what is left -/
def End (Q : Sg → Prop) (P : Prop) (σ σ' : Sg) (J' : Jr) (p : Rp) : Prop := (σ'.down = false ∧ RgQ Q σ' J' ∧ ((p.code = 0 ∧ P) ∨ Core σ σ')) ∨ (σ'.down = true ∧ RgD Q J' ∧ J'.off = true ∧ p = rf 19)
theorem RgQ.chg (hC : CoreC Q) (hC' : CoreC Q') (h : RgQ Q σ J) (hN : XprN q) (hrb : Rb q) (hq : isC q.op = true) (hv : valid park σ.now q = 0) (hs : σ.seq + 1 ≤ 9223372036854775807) (hQ : ∀ s, Q s → Q' s) (hA : (apS park q σ).2.code = 0 → ∀ s, Aft q σ s → Q' s) :
    End Q' (isC q.op = true) σ (chgS park q σ J).1 (chgS park q σ J).2.1 (chgS park q σ J).2.2 := by
  unfold chgS
  simp only
  have h1 : RgQ Q { σ with ent := ent (σ.seq + 1) q } J := h.same ⟨rfl, rfl, rfl, rfl⟩ rfl rfl rfl
  have hsame := roomS_same park { σ with ent := ent (σ.seq + 1) q } J (((ent (σ.seq + 1) q).length : Nat) : Int)
  have h2 := h1.room hC (((ent (σ.seq + 1) q).length : Nat) : Int)
  have hrn := room_n (σ := { σ with ent := ent (σ.seq + 1) q }) (J := J) (((ent (σ.seq + 1) q).length : Nat) : Int)
  generalize roomS park { σ with ent := ent (σ.seq + 1) q } J (((ent (σ.seq + 1) q).length : Nat) : Int) = r at hsame h2 hrn ⊢
  have c0 : Core σ r.1 := ⟨hsame.now, hsame.rs, hsame.ls, hsame.seq⟩
  have v1 : valid park r.1.now q = 0 := by rw [hsame.now]; exact hv
  rcases h2 with ⟨d2, h2, c2⟩ | ⟨d2, h2, o2, c2⟩
  · by_cases hr0 : r.2.2 = 0
    · rw [if_pos hr0]
      have hroom := hrn hr0
      have e1 : r.1.seq = σ.seq := c0.seq
      have hcore := apS_core (C := park) (q := q) c0
      by_cases c1 : (apS park q r.1).2.code = 0
      · rw [if_pos c1]
        have hw := h2.write hC' hN hrb hq v1 c1 (by omega) hQ fun s hs => hA (by rw [← hcore.1]; exact c1) s (hs.of c0)
        rw [e1] at hw
        have hx := (ent_len (s := σ.seq + 1) hN.ll).1
        have hmr : roomR r.2.1 ≤ r.2.1.mr ∨ roomR r.2.1 = 0 := by
          unfold roomR
          simp only
          repeat' split
          all_goals omega
        have ho2 : ¬ r.2.1.off = true := by rw [h2.off]; decide
        unfold wrtS
        by_cases hl : r.2.1.left = 1
        · have ea : appJ r.2.1 (ent (σ.seq + 1) q) = (failJ (dueJ { r.2.1 with log := r.2.1.log ++ [ent (σ.seq + 1) q] }) r.2.1.keep, 19) := by
            unfold appJ
            rw [if_neg ho2, if_neg (by omega), if_neg (by omega), if_pos hl]
          rw [ea, if_neg (show ¬ (19 : Int) = 0 by decide), if_neg (show ¬ (19 : Int) = 0 by decide)]
          refine .inr ⟨?_, hw.due.fail _, rfl, rfl⟩
          show (refS 19 { (apS park q r.1).1 with down := true }).down = true
          rw [(refS_o _ _).1]
        · have ea : appJ r.2.1 (ent (σ.seq + 1) q) = (dueJ { r.2.1 with log := r.2.1.log ++ [ent (σ.seq + 1) q] }, 0) := by
            unfold appJ
            rw [if_neg ho2, if_neg (by omega), if_neg (by omega), if_neg hl]
          rw [ea, if_pos rfl, if_pos rfl]
          refine .inl ⟨hw.dn, hw.due.same ⟨rfl, rfl, rfl, rfl⟩ rfl rfl rfl, .inl ⟨c1, hq⟩⟩
      · rw [if_neg c1, apS_no c1]
        refine .inl ⟨by show (refS _ r.1).down = false; rw [(refS_o _ _).1]; exact d2, (h2.ref _).mono hQ, .inr (c0.trans (refS_same _ _).core)⟩
    · rw [if_neg hr0]
      refine .inl ⟨by show (refS _ r.1).down = false; rw [(refS_o _ _).1]; exact d2, (h2.ref _).mono hQ, .inr (c0.trans (refS_same _ _).core)⟩
  · rw [if_neg (by rw [c2]; decide), c2]
    refine .inr ⟨by show (refS _ r.1).down = true; rw [(refS_o _ _).1]; exact d2, h2.mono hQ, o2, rfl⟩
theorem RgQ.stg (hC : CoreC Q) (hC' : CoreC Q') (h : RgQ Q σ J) (hR : RqN q) (hrb : xpr q = true → Rb q) (hs : σ.seq + 1 ≤ 9223372036854775807) (hQ : ∀ s, Q s → Q' s) (hA : isC q.op = true → valid park σ.now q = 0 → (apS park q σ).2.code = 0 → ∀ s, Aft q σ s → Q' s) :
    End Q' (isC q.op = true) σ (stgS park q σ J).1 (stgS park q σ J).2.1 (stgS park q σ J).2.2 := by
  unfold stgS
  simp only
  have h1 : RgQ Q { σ with sr := w1 σ.sr } J := h.same ⟨rfl, rfl, rfl, rfl⟩ rfl rfl rfl
  have c0 : Core σ { σ with sr := w1 σ.sr } := ⟨rfl, rfl, rfl, rfl⟩
  have href : ∀ c (p : Rp), End Q' (isC q.op = true) σ (refS c { σ with sr := w1 σ.sr }) J p := fun c p => .inl ⟨by rw [(refS_o _ _).1]; exact h.dn, (h1.ref c).mono hQ, .inr (c0.trans (refS_same _ _).core)⟩
  rw [if_neg (by rw [h.dn]; decide)]
  by_cases k0 : xpr q = false
  · rw [if_pos k0]; exact href _ _
  · rw [if_neg k0]
    have hx : xpr q = true := by simpa using k0
    have hN := xprN hR hx
    by_cases c1 : valid park σ.now q = 0
    · rw [if_pos c1]
      by_cases c2 : isQ q.op = true
      · rw [if_pos c2]
        show End Q' (isC q.op = true) σ (ansS park q { σ with sr := w1 σ.sr }).1 J _
        unfold ansS
        split
        · refine .inl ⟨h.dn, ?_, .inr ⟨rfl, rfl, rfl, rfl⟩⟩
          refine RgQ.mono ?_ hQ
          exact h1.same ⟨rfl, rfl, rfl, rfl⟩ rfl rfl rfl
        · exact href _ _
      · rw [if_neg c2]
        have hCc : isC q.op = true := by
          have := hN.op
          unfold isQ at c2
          unfold isC
          simp only [Bool.and_eq_true, decide_eq_true_eq] at c2 ⊢
          omega
        have hcore := apS_core (C := park) (q := q) c0
        rcases h1.chg hC hC' hN (hrb hx) hCc c1 hs hQ (fun e s ha => hA hCc c1 (by rw [← hcore.1]; exact e) s (ha.of c0)) with ⟨a, b, c⟩ | r
        · exact .inl ⟨a, b, c.imp id fun q => c0.trans q⟩
        · exact .inr r
    · rw [if_neg c1]; exact href _ _
theorem RgQ.stb (hC : CoreC Q) (hC' : CoreC Q') (h : RgQ Q σ J) (hB : By bs) (hs : σ.seq + 1 ≤ 9223372036854775807) (hQ : ∀ s, Q s → Q' s) (hA : (dec bs).2 = 0 → isC (dec bs).1.op = true → valid park σ.now (dec bs).1 = 0 → (apS park (dec bs).1 σ).2.code = 0 → ∀ s, Aft (dec bs).1 σ s → Q' s) :
    End Q' ((dec bs).2 = 0 ∧ isC (dec bs).1.op = true) σ (stbS park bs σ J).1 (stbS park bs σ J).2.1 (stbS park bs σ J).2.2 := by
  unfold stbS
  rw [if_neg (by rw [h.dn]; decide)]
  split
  · rename_i h0
    rcases h.stg hC hC' (dec_x h0).rq (fun _ => Rb.of hB h0) hs hQ (hA h0) with ⟨a, b, c⟩ | r
    · exact .inl ⟨a, b, c.imp (fun q => ⟨q.1, h0, q.2⟩) id⟩
    · exact .inr r
  · have h1 : RgQ Q { σ with sr := w1 σ.sr } J := h.same ⟨rfl, rfl, rfl, rfl⟩ rfl rfl rfl
    exact .inl ⟨by show (refS _ _).down = false; rw [(refS_o _ _).1]; exact h.dn, (h1.ref _).mono hQ, .inr (Core.trans (b := { σ with sr := w1 σ.sr }) ⟨rfl, rfl, rfl, rfl⟩ (refS_same _ _).core)⟩
/-- all is made safe -/
theorem RgQ.set (hC : CoreC Q) (h : RgQ Q σ J) : ((setS park σ J).2.2 = 0 ∧ (setS park σ J).1.down = false ∧ RgQ (Core (setS park σ J).1) (setS park σ J).1 (setS park σ J).2.1 ∧ (setS park σ J).1.loose = 0) ∨ ((setS park σ J).2.2 = 19 ∧ (setS park σ J).1.down = true ∧ RgD Q (setS park σ J).2.1 ∧ (setS park σ J).2.1.off = true) := by
  unfold setS
  rw [if_neg (by rw [h.dn]; decide)]
  by_cases c0 : σ.loose = 0
  · rw [if_pos c0]; exact .inl ⟨rfl, h.dn, h.tight c0, c0⟩
  · rw [if_neg c0]
    have ho : ¬ J.off = true := by rw [h.off]; decide
    by_cases hl : J.left = 1
    · have e : comJ J = (failJ (dueJ J) J.keep, 19) := by unfold comJ; rw [if_neg ho, if_pos hl]
      rw [e, if_neg (show ¬ (19 : Int) = 0 by decide)]
      exact .inr ⟨rfl, rfl, h.due.fail _, rfl⟩
    · have e : comJ J = ({ dueJ J with safe := J.log.length }, 0) := by unfold comJ; rw [if_neg ho, if_neg hl]
      rw [e, if_pos rfl]
      have h1 : RgQ Q { σ with loose := 0 } { dueJ J with safe := J.log.length } := by
        have hd := h.due
        refine ⟨hd.g, hd.dn, hd.off, hd.tl, Nat.le_refl _, ?_, ⟨hd.jb.s, hd.jb.l, hd.jb.n⟩, fun n a b => ?_⟩
        · show (0 : Int) = ((J.log.length - J.log.length : Nat) : Int)
          simp
        · obtain ⟨σ1, r1, r2, r3⟩ := hd.rp n (by have := h.sf; have : J.log.length ≤ n := a; show J.safe ≤ n; omega) b
          exact ⟨σ1, r1, r2, fun e => ⟨(r3 e).now, (r3 e).rs, (r3 e).ls, (r3 e).seq⟩⟩
      obtain ⟨hu, hc, hl0⟩ := h1.aft hC rfl
      rcases hu with ⟨d, r, c⟩ | ⟨d, r, o, c⟩
      · have hc0 : (aftS park { σ with loose := 0 } { dueJ J with safe := J.log.length }).2.2 = 0 := by
          rcases hc with q | q
          · exact q
          · exact absurd q c
        exact .inl ⟨hc0, d, r.tight (hl0 hc0), hl0 hc0⟩
      · exact .inr ⟨c, d, r, o⟩
/-- a request in bytes, whatever strikes -/
theorem RgQ.hnd (hC : CoreC Q) (h : RgQ Q σ J) (hB : By bs) (hs : σ.seq + 1 ≤ 9223372036854775807) :
    ((hndS park bs σ J).1.down = false ∧ RgQ (Core (hndS park bs σ J).1) (hndS park bs σ J).1 (hndS park bs σ J).2.1 ∧ (hndS park bs σ J).1.loose = 0 ∧ (((hndS park bs σ J).2.2.code = 0 ∧ (dec bs).2 = 0 ∧ isC (dec bs).1.op = true) ∨ Core σ (hndS park bs σ J).1)) ∨
    ((hndS park bs σ J).1.down = true ∧ (hndS park bs σ J).2.2 = rf 19 ∧ (hndS park bs σ J).2.1.off = true ∧ RgD (fun s => Q s ∨ ((dec bs).2 = 0 ∧ isC (dec bs).1.op = true ∧ valid park σ.now (dec bs).1 = 0 ∧ (apS park (dec bs).1 σ).2.code = 0 ∧ Aft (dec bs).1 σ s)) (hndS park bs σ J).2.1) := by
  have hC' : CoreC (fun s => Q s ∨ ((dec bs).2 = 0 ∧ isC (dec bs).1.op = true ∧ valid park σ.now (dec bs).1 = 0 ∧ (apS park (dec bs).1 σ).2.code = 0 ∧ Aft (dec bs).1 σ s)) := fun a b c q => q.imp (hC a b c) fun q => ⟨q.1, q.2.1, q.2.2.1, q.2.2.2.1, q.2.2.2.2.core c⟩
  have h1 := h.stb hC hC' hB hs (fun s q => .inl q) (fun a b c d s q => .inr ⟨a, b, c, d, q⟩)
  unfold hndS
  simp only
  generalize stbS park bs σ J = r at h1 ⊢
  rcases h1 with ⟨d, r1, c⟩ | ⟨d, r1, o, c⟩
  · have hsm := (setS_same park r.1 r.2.1).core
    rcases r1.set hC' with ⟨e, d2, r2, l2⟩ | ⟨e, d2, r2, o2⟩
    · rw [if_pos e]
      exact .inl ⟨d2, r2, l2, c.imp id fun q => q.trans hsm⟩
    · rw [if_neg (by rw [e]; decide)]
      exact .inr ⟨d2, rfl, o2, r2⟩
  · have e : setS park r.1 r.2.1 = (r.1, r.2.1, 19) := by unfold setS; rw [if_pos d]
    rw [e, if_neg (show ¬ (19 : Int) = 0 by decide)]
    exact .inr ⟨d, rfl, o, r1⟩
/-! ### power goes and comes back -/
theorem rplL_lo : ∀ {l : List (List Int)} {σ σ' : Sg}, rplL park l σ = some σ' → σ'.loose = σ.loose ∧ σ'.down = σ.down
  | [], σ, σ', h => by
    have e := Option.some.inj (show some σ = some σ' from h)
    rw [← e]
    exact ⟨rfl, rfl⟩
  | x :: l, σ, σ', h => by
    rw [rplL] at h
    cases hx : rplS park x σ with
    | none => rw [hx] at h; cases h
    | some σ1 =>
      rw [hx] at h
      have h2 : σ1.loose = σ.loose ∧ σ1.down = σ.down := by
        unfold rplS at hx
        split at hx
        · rw [← Option.some.inj hx]; exact ⟨(apS_keep park (par x).2.1 σ).2.2.2, (apS_o park (par x).2.1 σ).1⟩
        · cases hx
      obtain ⟨b1, b2⟩ := rplL_lo h
      exact ⟨by rw [b1, h2.1], by rw [b2, h2.2]⟩
theorem opn1_lo (h : opn1 park J = some σ) : σ.loose = 0 ∧ σ.down = false := by
  unfold opn1 at h
  cases h0 : opn0 park J with
  | none => rw [h0] at h; cases h
  | some σ0 =>
    rw [h0] at h
    obtain ⟨b1, b2⟩ := rplL_lo h
    have h1 : σ0.loose = 0 ∧ σ0.down = false := by
      unfold opn0 at h0
      split at h0
      · split at h0
        · rw [← Option.some.inj h0]; exact ⟨rfl, rfl⟩
        · cases h0
      · rw [← Option.some.inj h0]; exact ⟨rfl, rfl⟩
    exact ⟨by rw [b1, h1.1], by rw [b2, h1.2]⟩
theorem RgD.fail (h : RgD Q J) (k : Int) : RgD Q (failJ J k) := by
  have e : failN J k = J.log.length := by unfold failN; rw [h.sf]; omega
  obtain ⟨σ1, r1, r2⟩ := h.rp
  refine ⟨?_, ⟨h.jb.s, fun x hx => h.jb.l x (List.mem_of_mem_take hx), h.jb.n⟩, σ1, ?_, r2⟩
  · show failN J k = (J.log.take (failN J k)).length
    rw [List.length_take]; omega
  · rw [← r1]; exact opn1_eq rfl rfl (by show J.log.take (failN J k) = J.log; rw [e, List.take_length])
theorem RgD.flags {o : Bool} {l k : Int} (h : RgD Q J) : RgD Q { J with off := o, left := l, keep := k } := by
  obtain ⟨σ1, r1, r2⟩ := h.rp
  exact ⟨h.sf, ⟨h.jb.s, h.jb.l, h.jb.n⟩, σ1, r1, r2⟩
theorem RgD.arm (h : RgD Q J) (a b : Int) : RgD Q (armJ J a b) := by
  unfold armJ
  split
  · exact h.flags (o := J.off)
  · exact h.flags (o := J.off)
theorem RgQ.arm2 (h : RgQ Q σ J) (a b : Int) : RgQ Q σ (armJ J a b) := by
  unfold armJ
  split
  · exact h.arm
  · exact h.arm
/-- an engine is opened -/
theorem RgD.opn (hC : CoreC Q) (h : RgD Q J) : RgD Q (opnS park J).1 ∧ ((∃ σ', (opnS park J).2.1 = some σ' ∧ (opnS park J).2.2 = 0 ∧ σ'.down = false ∧ RgQ (Core σ') σ' (opnS park J).1 ∧ σ'.loose = 0 ∧ Q σ') ∨ ((opnS park J).2.1 = none ∧ (opnS park J).2.2 = 19 ∧ (opnS park J).1.off = true)) := by
  unfold opnS
  by_cases ho : J.off = true
  · rw [if_pos ho]; exact ⟨h, .inr ⟨rfl, rfl, ho⟩⟩
  · rw [if_neg ho]
    have ho' : J.off = false := by simpa using ho
    by_cases hl : J.left = 1
    · rw [if_pos hl]
      exact ⟨(h.flags (o := J.off) (l := _) (k := J.keep) : RgD Q (dueJ J)).fail _, .inr ⟨rfl, rfl, rfl⟩⟩
    · rw [if_neg hl]
      obtain ⟨σ1, r1, r2⟩ := h.rp
      rw [r1]
      have hq1 := opn1_lo r1
      have gd := opn1_gd park_cv h.jb r1
      have hR : RgQ Q { σ1 with tail := (J.log.length : Nat) } (dueJ J) := by
        refine ⟨gd, hq1.2, ho', rfl, by show J.safe ≤ J.log.length; rw [h.sf]; exact Nat.le_refl _, ?_, ⟨h.jb.s, h.jb.l, h.jb.n⟩, fun n a b => ?_⟩
        · show σ1.loose = ((J.log.length - J.safe : Nat) : Int)
          rw [hq1.1, h.sf]; simp
        · have a' : J.safe ≤ n := a
          have b' : n ≤ J.log.length := b
          have hn : n = J.log.length := by rw [h.sf] at a'; omega
          refine ⟨σ1, ?_, r2, fun _ => ⟨rfl, rfl, rfl, rfl⟩⟩
          rw [← r1]
          exact opn1_eq rfl rfl (by show J.log.take n = J.log; rw [hn, List.take_length])
      have hlo : ({ σ1 with tail := (J.log.length : Nat) } : Sg).loose = 0 := hq1.1
      obtain ⟨hu, hc, hl0⟩ := hR.aft hC hlo
      have hsm := aftS_same park { σ1 with tail := (J.log.length : Nat) } (dueJ J)
      simp only
      rcases hu with ⟨d, r, c⟩ | ⟨d, r, o, c⟩
      · have hc0 : (aftS park { σ1 with tail := (J.log.length : Nat) } (dueJ J)).2.2 = 0 := by
          rcases hc with q | q
          · exact q
          · exact absurd q c
        rw [if_pos hc0]
        exact ⟨r.d (hl0 hc0), .inl ⟨_, rfl, rfl, d, r.tight (hl0 hc0), hl0 hc0, hC σ1 _ (Core.trans (b := { σ1 with tail := (J.log.length : Nat) }) ⟨rfl, rfl, rfl, rfl⟩ hsm.core) r2⟩⟩
      · rw [if_neg (by rw [c]; decide)]
        exact ⟨r, .inr ⟨rfl, rfl, o⟩⟩
end
end Go.Proofs.Qxb6500896aGreat
