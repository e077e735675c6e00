import Derived.Test.Qxb6500896aGreatDoorN15
import Derived.Test.Qxb6500896aGreatDoorN13
namespace Go.Proofs.Qxb6500896aGreatDoor
open Go.Sh Go.RowKit
set_option linter.unusedVariables false
set_option linter.unusedSimpArgs false

/-! ### runs with failures -/
/-- the number that an engine has which opens on the journal -/
def sJ (J : Jr) : Int := (if J.has = true then (decImg J.snap).1.seq else 0) + ((J.log.length : Nat) : Int)
/-- a journal of a run, whatever strikes it -/
structure GJ (k : Int) (J : Jr) : Prop where
  jb : JBy J
  jl : Jlm 48 72 1200 J
  sq : sJ J ≤ k
/-- an engine of a run, whatever strikes its journal -/
structure GS (k : Int) (σ : Sg) : Prop where
  g : σ.down = false → SGd park σ
  lo : σ.down = false → σ.loose = 0
  s : 0 ≤ σ.seq ∧ σ.seq ≤ k
  t : 0 ≤ σ.tail ∧ σ.tail ≤ k + 20
  l : 0 ≤ σ.loose ∧ σ.loose ≤ k + 20
section
variable {k k' : Int} {σ σ' : Sg} {J J' : Jr} {q : Rq} {x : List Int}
theorem GJ.mono (h : GJ k J) (hk : k ≤ k') : GJ k' J := ⟨h.jb, h.jl, by have := h.sq; omega⟩
theorem GS.mono (h : GS k σ) (hk : k ≤ k') : GS k' σ := ⟨h.g, h.lo, ⟨h.s.1, by have := h.s.2; omega⟩, ⟨h.t.1, by have := h.t.2; omega⟩, ⟨h.l.1, by have := h.l.2; omega⟩⟩
theorem GS.eb (h : GS k σ) (hk : k ≤ 1000000) : EB σ := by
  have := h.s; have := h.t; have := h.l
  exact ⟨by omega, by omega, by omega, by omega, by omega, by omega⟩
/-- the journal keeps its texts -/
theorem GJ.log {log : List (List Int)} {s : Nat} {o : Bool} {l kk : Int} (h : GJ k J) (hl : ∀ x ∈ log, x ∈ J.log) (ht : tot log ≤ tot J.log) (hn : log.length ≤ J.log.length) : GJ k { J with log := log, safe := s, off := o, left := l, keep := kk } := by
  refine ⟨⟨h.jb.s, fun x hx => h.jb.l x (hl x hx), h.jb.n⟩, ⟨h.jl.mr, h.jl.cp, h.jl.ms, ?_⟩, ?_⟩
  · have := h.jl.tt
    show ((tot log : Nat) : Int) ≤ 72
    omega
  · have := h.sq
    unfold sJ at this ⊢
    show (if J.has = true then (decImg J.snap).1.seq else 0) + ((log.length : Nat) : Int) ≤ k
    omega
theorem GJ.due (h : GJ k J) : GJ k (dueJ J) := h.log (log := J.log) (fun _ q => q) (Nat.le_refl _) (Nat.le_refl _)
theorem GJ.fail (h : GJ k J) (kp : Int) : GJ k (failJ J kp) := h.log (log := J.log.take (failN J kp)) (fun x hx => List.mem_of_mem_take hx) (tot_take _ _) (by rw [List.length_take]; omega)
theorem GJ.arm (h : GJ k J) (a b : Int) : GJ k (armJ J a b) := by
  unfold armJ
  split
  · exact h.log (log := J.log) (fun _ q => q) (Nat.le_refl _) (Nat.le_refl _)
  · exact h.log (log := J.log) (fun _ q => q) (Nat.le_refl _) (Nat.le_refl _)
theorem GJ.com (h : GJ k J) : GJ k (comJ J).1 := by
  unfold comJ
  split
  · exact h
  · split
    · exact h.due.fail _
    · exact h.log (log := J.log) (fun _ q => q) (Nat.le_refl _) (Nat.le_refl _)
theorem GJ.app (h : GJ k J) (hB : By x) (h0 : 0 < x.length) : GJ (k + 1) (appJ J x).1 := by
  have hm : GJ (k + 1) J := h.mono (by omega)
  unfold appJ
  split
  · exact hm
  · split
    · exact hm
    · split
      · exact hm
      · rename_i hr
        have hj : Jlm 48 72 1200 { J with log := J.log ++ [x] } := h.jl.app (by omega) h0
        have h1 : GJ (k + 1) { J with log := J.log ++ [x] } := by
          refine ⟨⟨h.jb.s, fun y hy => ?_, h.jb.n⟩, hj, ?_⟩
          · rcases List.mem_append.1 hy with q | q
            · exact h.jb.l y q
            · rw [List.mem_singleton.1 q]; exact hB
          · have := h.sq
            unfold sJ at this ⊢
            show (if J.has = true then (decImg J.snap).1.seq else 0) + (((J.log ++ [x]).length : Nat) : Int) ≤ k + 1
            rw [List.length_append, List.length_singleton]
            omega
        split
        · exact h1.due.fail _
        · exact h1.due
section
theorem GJ.snap (h : GJ k J) (g : SGd park σ) (hs : σ.seq ≤ k) : GJ k (snapJ J (encImg (img park σ))).1 := by
  have hd := decImg_enc (imE park_cv park_mb g)
  have h1 : GJ k { dueJ J with has := true, snap := encImg (img park σ), log := [], safe := 0 } := by
    refine ⟨⟨encImg_by _, (fun x hx => by cases hx), encImg_le park_cv park_mb g⟩, ⟨h.jl.mr, h.jl.cp, h.jl.ms, by show ((tot [] : Nat) : Int) ≤ 72; simp [tot]⟩, ?_⟩
    have e : (decImg (encImg (img park σ))).1.seq = σ.seq := by rw [hd]; rfl
    have e2 : sJ { dueJ J with has := true, snap := encImg (img park σ), log := [], safe := 0 } = (decImg (encImg (img park σ))).1.seq + 0 := rfl
    rw [e2, e]
    omega
  unfold snapJ
  split
  · exact h
  · split
    · exact h
    · split
      · split
        · exact h1.fail _
        · exact h.due.fail _
      · exact h1
end
/-- what a snapshot does to the counters -/
theorem snapS_j : (snapS park σ J).2.1 = (snapJ J (encImg (img park σ))).1 := by
  unfold snapS
  repeat' split
  all_goals rfl
theorem snapS_t (ht : 0 ≤ σ.tail) (hl : 0 ≤ σ.loose) : (0 ≤ (snapS park σ J).1.tail ∧ (snapS park σ J).1.tail ≤ σ.tail) ∧ (0 ≤ (snapS park σ J).1.loose ∧ (snapS park σ J).1.loose ≤ σ.loose) := by
  unfold snapS
  split
  · exact ⟨⟨Int.le_refl 0, ht⟩, Int.le_refl 0, hl⟩
  · split
    · exact ⟨⟨ht, Int.le_refl _⟩, hl, Int.le_refl _⟩
    · exact ⟨⟨ht, Int.le_refl _⟩, hl, Int.le_refl _⟩
theorem aftS_t (ht : 0 ≤ σ.tail) (hl : 0 ≤ σ.loose) : (0 ≤ (aftS park σ J).1.tail ∧ (aftS park σ J).1.tail ≤ σ.tail) ∧ (0 ≤ (aftS park σ J).1.loose ∧ (aftS park σ J).1.loose ≤ σ.loose) := by
  unfold aftS
  split
  · exact ⟨⟨ht, Int.le_refl _⟩, hl, Int.le_refl _⟩
  · exact snapS_t ht hl
theorem GJ.aft (h : GJ k J) (g : SGd park σ) (hs : σ.seq ≤ k) : GJ k (aftS park σ J).2.1 := by
  unfold aftS
  split
  · exact h
  · show GJ k (snapS park σ J).2.1
    rw [snapS_j]
    exact h.snap g hs
theorem room_keep (h : GJ k J) (g : SGd park σ) (hs : σ.seq ≤ k) (n : Int) : GJ k (roomS park σ J n).2.1 := by
  unfold roomS
  split
  · exact h
  · split
    · exact h
    · split
      · show GJ k (snapS park σ J).2.1
        rw [snapS_j]; exact h.snap g hs
      · show GJ k (snapS park σ J).2.1
        rw [snapS_j]; exact h.snap g hs
theorem room_t (ht : 0 ≤ σ.tail) (hl : 0 ≤ σ.loose) (n : Int) : (0 ≤ (roomS park σ J n).1.tail ∧ (roomS park σ J n).1.tail ≤ σ.tail) ∧ (0 ≤ (roomS park σ J n).1.loose ∧ (roomS park σ J n).1.loose ≤ σ.loose) := by
  unfold roomS
  split
  · exact ⟨⟨ht, Int.le_refl _⟩, hl, Int.le_refl _⟩
  · split
    · exact ⟨⟨ht, Int.le_refl _⟩, hl, Int.le_refl _⟩
    · split
      · exact snapS_t ht hl
      · exact snapS_t ht hl
/-- a step: the counters grow by one at most, the journal by one entry -/
def Kept (k : Int) (σ : Sg) (r : Sg × Jr) : Prop := GJ (k + 1) r.2 ∧ (0 ≤ r.1.tail ∧ r.1.tail ≤ σ.tail + 1) ∧ (0 ≤ r.1.loose ∧ r.1.loose ≤ σ.loose + 1)
theorem kept_ref {c : Int} (hj : GJ k J) (ht : 0 ≤ σ.tail) (hl : 0 ≤ σ.loose) (h1 : σ'.tail = σ.tail) (h2 : σ'.loose = σ.loose) : Kept k σ (refS c σ', J) := by
  have := refS_o c σ'
  exact ⟨hj.mono (by omega), by rw [this.2.1, h1]; omega, by rw [this.2.2.1, h2]; omega⟩
theorem chg_keep (h : GJ k J) (g : SGd park σ) (hs : σ.seq ≤ k) (ht : 0 ≤ σ.tail) (hl : 0 ≤ σ.loose) (hN : XprN q) : Kept k σ ((chgS park q σ J).1, (chgS park q σ J).2.1) := by
  unfold chgS
  simp only
  have g1 : SGd park { σ with ent := ent (σ.seq + 1) q } := g
  have hj := room_keep (σ := { σ with ent := ent (σ.seq + 1) q }) h g1 hs (((ent (σ.seq + 1) q).length : Nat) : Int)
  have htl := room_t (σ := { σ with ent := ent (σ.seq + 1) q }) (J := J) ht hl (((ent (σ.seq + 1) q).length : Nat) : Int)
  have htl1 : ({ σ with ent := ent (σ.seq + 1) q } : Sg).tail = σ.tail ∧ ({ σ with ent := ent (σ.seq + 1) q } : Sg).loose = σ.loose := ⟨rfl, rfl⟩
  generalize roomS park { σ with ent := ent (σ.seq + 1) q } J (((ent (σ.seq + 1) q).length : Nat) : Int) = r at hj htl ⊢
  rw [htl1.1, htl1.2] at htl
  have hk := apS_keep park q r.1
  have hr := fun c (s : Sg) => refS_o c s
  by_cases c0 : r.2.2 = 0
  · rw [if_pos c0]
    by_cases c1 : (apS park q r.1).2.code = 0
    · rw [if_pos c1]
      have ha := hj.app (x := ent (σ.seq + 1) q) (ent_by (by have := hN.op; omega)) (ent_len hN.ll).1
      unfold wrtS
      split
      · rw [if_pos rfl]
        refine ⟨ha, ?_, ?_⟩
        · show 0 ≤ (apS park q r.1).1.tail + 1 ∧ (apS park q r.1).1.tail + 1 ≤ σ.tail + 1
          rw [hk.2.2.1]; omega
        · show 0 ≤ (apS park q r.1).1.loose + 1 ∧ (apS park q r.1).1.loose + 1 ≤ σ.loose + 1
          rw [hk.2.2.2]; omega
      · rw [if_neg (show ¬ (19 : Int) = 0 by decide)]
        refine ⟨ha, ?_, ?_⟩
        · show 0 ≤ (refS 19 { (apS park q r.1).1 with down := true }).tail ∧ (refS 19 { (apS park q r.1).1 with down := true }).tail ≤ σ.tail + 1
          rw [(hr _ _).2.1]
          show 0 ≤ (apS park q r.1).1.tail ∧ (apS park q r.1).1.tail ≤ σ.tail + 1
          rw [hk.2.2.1]; omega
        · show 0 ≤ (refS 19 { (apS park q r.1).1 with down := true }).loose ∧ (refS 19 { (apS park q r.1).1 with down := true }).loose ≤ σ.loose + 1
          rw [(hr _ _).2.2.1]
          show 0 ≤ (apS park q r.1).1.loose ∧ (apS park q r.1).1.loose ≤ σ.loose + 1
          rw [hk.2.2.2]; omega
    · rw [if_neg c1]
      refine ⟨hj.mono (by omega), ?_, ?_⟩
      · show 0 ≤ (refS _ (apS park q r.1).1).tail ∧ (refS _ (apS park q r.1).1).tail ≤ _
        rw [(hr _ _).2.1, hk.2.2.1]; omega
      · show 0 ≤ (refS _ (apS park q r.1).1).loose ∧ (refS _ (apS park q r.1).1).loose ≤ _
        rw [(hr _ _).2.2.1, hk.2.2.2]; omega
  · rw [if_neg c0]
    refine ⟨hj.mono (by omega), ?_, ?_⟩
    · show 0 ≤ (refS _ r.1).tail ∧ (refS _ r.1).tail ≤ _
      rw [(hr _ _).2.1]; omega
    · show 0 ≤ (refS _ r.1).loose ∧ (refS _ r.1).loose ≤ _
      rw [(hr _ _).2.2.1]; omega
theorem stb_keep {bs : List Int} (h : GJ k J) (g : GS k σ) : Kept k σ ((stbS park bs σ J).1, (stbS park bs σ J).2.1) := by
  have ht := g.t.1
  have hl := g.l.1
  unfold stbS
  by_cases hd : σ.down = true
  · rw [if_pos hd]
    exact kept_ref h ht hl rfl rfl
  · rw [if_neg hd]
    have gd := g.g (by simpa using hd)
    split
    · rename_i h0
      unfold stgS
      simp only
      rw [if_neg hd]
      have hR := (dec_x h0).rq
      by_cases c0 : xpr (dec bs).1 = false
      · rw [if_pos c0]; exact kept_ref h ht hl rfl rfl
      · rw [if_neg c0]
        have hN := xprN hR (by simpa using c0)
        by_cases c1 : valid park σ.now (dec bs).1 = 0
        · rw [if_pos c1]
          by_cases c2 : isQ (dec bs).1.op = true
          · rw [if_pos c2]
            show Kept k σ ((ansS park (dec bs).1 { σ with sr := w1 σ.sr }).1, J)
            unfold ansS
            split
            · exact ⟨h.mono (by omega), ⟨ht, by show σ.tail ≤ _; omega⟩, hl, by show σ.loose ≤ _; omega⟩
            · exact kept_ref h ht hl rfl rfl
          · rw [if_neg c2]
            have g1 : SGd park { σ with sr := w1 σ.sr } := gd
            exact chg_keep (σ := { σ with sr := w1 σ.sr }) h g1 g.s.2 ht hl hN
        · rw [if_neg c1]; exact kept_ref h ht hl rfl rfl
    · exact kept_ref h ht hl rfl rfl
/-- a request is handled, whatever strikes -/
theorem hnd_keep {bs : List Int} (h : GJ k J) (g : GS k σ) (hk : k ≤ 1000000) : GS (k + 1) (hndS park bs σ J).1 ∧ GJ (k + 1) (hndS park bs σ J).2.1 := by
  have hq := stbS_q park bs σ J
  have hs := g.s
  have htt := g.t
  have hll := g.l
  have hgd := fun hd => stbS_gd (J := J) (bs := bs) park_cv g.g (by omega) hd
  obtain ⟨j1, ⟨t0, t1⟩, l0, l1⟩ := stb_keep (bs := bs) h g
  unfold hndS
  simp only at j1 t0 t1 l0 l1 ⊢
  generalize stbS park bs σ J = r at hq hgd j1 t0 t1 l0 l1 ⊢
  have hsm := (setS_same park r.1 r.2.1)
  have sq : 0 ≤ r.1.seq ∧ r.1.seq ≤ k + 1 := by rcases hq with q | q <;> omega
  have sq2 : 0 ≤ (setS park r.1 r.2.1).1.seq ∧ (setS park r.1 r.2.1).1.seq ≤ k + 1 := by rw [hsm.seq]; exact sq
  unfold setS at hsm sq2 ⊢
  by_cases hd : r.1.down = true
  · rw [if_pos hd] at sq2 ⊢
    exact ⟨⟨(fun q => by rw [hd] at q; cases q), (fun q => by rw [hd] at q; cases q), sq2, ⟨t0, by show r.1.tail ≤ _; omega⟩, ⟨l0, by show r.1.loose ≤ _; omega⟩⟩, j1⟩
  · have hd' : r.1.down = false := by simpa using hd
    have gd := hgd hd'
    rw [if_neg hd] at hsm sq2 ⊢
    by_cases hl0 : r.1.loose = 0
    · rw [if_pos hl0] at sq2 ⊢
      exact ⟨⟨fun _ => gd, fun _ => hl0, sq2, ⟨t0, by show r.1.tail ≤ _; omega⟩, ⟨l0, by show r.1.loose ≤ _; omega⟩⟩, j1⟩
    · rw [if_neg hl0] at hsm sq2 ⊢
      by_cases hc : (comJ r.2.1).2 = 0
      · rw [if_pos hc] at hsm sq2 ⊢
        have gd1 : SGd park { r.1 with loose := 0 } := gd
        have ht := aftS_t (σ := { r.1 with loose := 0 }) (J := (comJ r.2.1).1) t0 (by show (0 : Int) ≤ 0; decide)
        have e1 : ({ r.1 with loose := 0 } : Sg).tail = r.1.tail ∧ ({ r.1 with loose := 0 } : Sg).loose = 0 := ⟨rfl, rfl⟩
        rw [e1.1, e1.2] at ht
        refine ⟨⟨fun _ => hsm.gd gd, fun _ => Int.le_antisymm ht.2.2 ht.2.1, sq2, ⟨ht.1.1, Int.le_trans ht.1.2 (by show r.1.tail ≤ _; omega)⟩, ⟨ht.2.1, Int.le_trans ht.2.2 (by omega)⟩⟩, ?_⟩
        exact GJ.aft (σ := { r.1 with loose := 0 }) j1.com gd1 sq.2
      · rw [if_neg hc] at sq2 ⊢
        exact ⟨⟨fun q => (by cases q), fun q => (by cases q), sq2, ⟨t0, by show r.1.tail ≤ _; omega⟩, ⟨l0, by show r.1.loose ≤ _; omega⟩⟩, j1.com⟩
/-! ### an engine is opened, whatever strikes -/
theorem rplL_q : ∀ {l : List (List Int)} {σ σ' : Sg}, rplL park l σ = some σ' → σ'.seq = σ.seq + ((l.length : Nat) : Int) ∧ σ'.loose = σ.loose
  | [], σ, σ', h => by
    have e := Option.some.inj (show some σ = some σ' from h)
    rw [← e]
    exact ⟨by simp, rfl⟩
  | x :: l, σ, σ', h => by
    rw [rplL] at h
    cases hx : rplS park x σ with
    | none => rw [hx] at h; cases h
    | some σ1 =>
      rw [hx] at h
      have h1 := (rplS_seq hx).1
      have h2 : σ1.loose = σ.loose := by
        unfold rplS at hx
        split at hx
        · rw [← Option.some.inj hx]; exact (apS_keep park (par x).2.1 σ).2.2.2
        · cases hx
      obtain ⟨b1, b2⟩ := rplL_q h
      rw [List.length_cons]
      exact ⟨by rw [b1, h1]; omega, by rw [b2, h2]⟩
theorem opn1_q (h : opn1 park J = some σ) : σ.seq = sJ J ∧ σ.loose = 0 := by
  unfold opn1 at h
  cases h0 : opn0 park J with
  | none => rw [h0] at h; cases h
  | some σ0 =>
    rw [h0] at h
    obtain ⟨b1, b2⟩ := rplL_q h
    have h1 : σ0.seq = (if J.has = true then (decImg J.snap).1.seq else 0) ∧ σ0.loose = 0 := by
      unfold opn0 at h0
      split at h0
      · rename_i hh
        split at h0
        · rw [← Option.some.inj h0, if_pos hh]; exact ⟨rfl, rfl⟩
        · cases h0
      · rename_i hh
        rw [← Option.some.inj h0, if_neg hh]; exact ⟨rfl, rfl⟩
    unfold sJ
    exact ⟨by rw [b1, h1.1], by rw [b2, h1.2]⟩
theorem opn_keep (h : GJ k J) (hk : 0 ≤ k) : GJ k (opnS park J).1 ∧ ∀ σ', (opnS park J).2.1 = some σ' → GS k σ' := by
  have hlt := len_tot J.log
  have htt := h.jl.tt
  unfold opnS
  split
  · exact ⟨h, fun σ' e => by cases e⟩
  · split
    · exact ⟨h.due.fail _, fun σ' e => by cases e⟩
    · cases h1 : opn1 park J with
      | none => exact ⟨h.due, fun σ' e => by cases e⟩
      | some σ1 =>
        obtain ⟨q1, q2⟩ := opn1_q h1
        have gd := opn1_gd park_cv h.jb h1
        have gd1 : SGd park { σ1 with tail := (J.log.length : Nat) } := gd
        have hsq := h.sq
        have hj := GJ.aft (σ := { σ1 with tail := (J.log.length : Nat) }) h.due gd1 (by show σ1.seq ≤ k; omega)
        have ht := aftS_t (σ := { σ1 with tail := (J.log.length : Nat) }) (J := dueJ J) (by show (0 : Int) ≤ ((J.log.length : Nat) : Int); omega) (by show 0 ≤ σ1.loose; omega)
        have hsm := aftS_same park { σ1 with tail := (J.log.length : Nat) } (dueJ J)
        have e1 : ({ σ1 with tail := (J.log.length : Nat) } : Sg).tail = ((J.log.length : Nat) : Int) ∧ ({ σ1 with tail := (J.log.length : Nat) } : Sg).loose = σ1.loose := ⟨rfl, rfl⟩
        rw [e1.1, e1.2] at ht
        have es : ({ σ1 with tail := (J.log.length : Nat) } : Sg).seq = σ1.seq := rfl
        simp only
        split
        · refine ⟨hj, fun σ' e => ?_⟩
          have e := Option.some.inj e
          subst e
          have hq0 := gd.seq
          have hn0 := gd.now
          exact ⟨fun _ => hsm.gd gd1, fun _ => by omega, by rw [hsm.seq, es]; omega, by omega, by omega⟩
        · exact ⟨hj, fun σ' e => by cases e⟩
/-! ### questions to an engine that is up -/
theorem ask_up (hd : σ.down = false) (hlo : σ.loose = 0) (hq : QOk q) : (hndS park (enc q) σ J).2.2 = ansQ park σ q ∧ (hndS park (enc q) σ J).2.1 = J ∧ Core σ (hndS park (enc q) σ J).1 ∧ (hndS park (enc q) σ J).1.down = false ∧ (hndS park (enc q) σ J).1.loose = 0 ∧ (hndS park (enc q) σ J).1.tail = σ.tail := by
  have hr : dec (enc q) = (q, 0) := hq.rb
  have hrf := fun c (s : Sg) => refS_o c s
  have hs : ∀ c, Core σ (refS c { σ with sr := w1 σ.sr }) := fun c => Core.trans (b := { σ with sr := w1 σ.sr }) ⟨rfl, rfl, rfl, rfl⟩ (refS_same c { σ with sr := w1 σ.sr }).core
  have e1 : qR park q { σ with sr := w1 σ.sr } = qR park q σ := qR_core (σ := σ) (σ' := { σ with sr := w1 σ.sr }) ⟨rfl, rfl, rfl, rfl⟩ q
  have est : stbS park (enc q) σ J = stgS park q σ J := by
    unfold stbS
    rw [if_neg (by rw [hd]; decide), hr, if_pos rfl]
  have key : (stgS park q σ J).2.2 = ansQ park σ q ∧ (stgS park q σ J).2.1 = J ∧ Core σ (stgS park q σ J).1 ∧ (stgS park q σ J).1.loose = σ.loose ∧ (stgS park q σ J).1.down = false ∧ (stgS park q σ J).1.tail = σ.tail := by
    unfold stgS ansQ
    simp only
    rw [if_neg (by rw [hd]; decide), if_neg (by rw [hq.xpr]; decide)]
    by_cases c1 : valid park σ.now q = 0
    · rw [if_pos c1, if_pos c1, if_pos hq.isq]
      unfold ansS
      rw [e1]
      by_cases c2 : (qR park q σ).code = 0
      · rw [if_pos c2, if_pos c2]
        exact ⟨rfl, rfl, ⟨rfl, rfl, rfl, rfl⟩, rfl, hd, rfl⟩
      · rw [if_neg c2, if_neg c2]
        exact ⟨rfl, rfl, hs _, (hrf (qR park q σ).code { σ with sr := w1 σ.sr }).2.2.1, by show (refS (qR park q σ).code { σ with sr := w1 σ.sr }).down = false; rw [(hrf _ _).1]; exact hd, (hrf (qR park q σ).code { σ with sr := w1 σ.sr }).2.1⟩
    · rw [if_neg c1, if_neg c1]
      exact ⟨rfl, rfl, hs _, (hrf (valid park σ.now q) { σ with sr := w1 σ.sr }).2.2.1, by show (refS (valid park σ.now q) { σ with sr := w1 σ.sr }).down = false; rw [(hrf _ _).1]; exact hd, (hrf (valid park σ.now q) { σ with sr := w1 σ.sr }).2.1⟩
  obtain ⟨k1, k2, k3, k4, k5, k6⟩ := key
  unfold hndS
  simp only
  rw [est]
  have es : setS park (stgS park q σ J).1 (stgS park q σ J).2.1 = ((stgS park q σ J).1, (stgS park q σ J).2.1, 0) := by
    unfold setS
    rw [if_neg (by rw [k5]; decide), if_pos (by rw [k4]; exact hlo)]
  rw [es, if_pos rfl]
  exact ⟨k1, k2, k3, k5, by rw [k4]; exact hlo, k6⟩
end
end Go.Proofs.Qxb6500896aGreatDoor
