import Derived.Test.Qxb6500896aGreatDoorK71
namespace Go.Proofs.Qxb6500896aGreatDoor
open Go.Sh Go.RowKit
set_option linter.unusedVariables false
set_option linter.unusedSimpArgs false

/-! ### runs without failures -/
/-- the same park -/
structure Core (σ σ' : Sg) : Prop where
  now : σ'.now = σ.now
  rs : σ'.rs = σ.rs
  ls : σ'.ls = σ.ls
  seq : σ'.seq = σ.seq
theorem Core.refl (σ : Sg) : Core σ σ := ⟨rfl, rfl, rfl, rfl⟩
theorem Core.trans {a b c : Sg} (h : Core a b) (h' : Core b c) : Core a c := ⟨by rw [h'.now, h.now], by rw [h'.rs, h.rs], by rw [h'.ls, h.ls], by rw [h'.seq, h.seq]⟩
theorem Core.symm {a b : Sg} (h : Core a b) : Core b a := ⟨h.now.symm, h.rs.symm, h.ls.symm, h.seq.symm⟩
theorem Same.core {a b : Sg} (h : Same a b) : Core a b := ⟨h.now, h.rs, h.ls, h.seq⟩
theorem Core.gd {C : Cfg} {a b : Sg} (h : Core a b) (g : SGd C a) : SGd C b := by unfold SGd; rw [h.now, h.rs, h.ls, h.seq]; exact g
theorem Core.img {C : Cfg} {a b : Sg} (h : Core a b) : img C b = img C a := by unfold Go.Proofs.Qxb6500896aGreatDoor.img; rw [h.now, h.rs, h.ls, h.seq]
/-- what is carried out depends on the park alone -/
theorem apS_core {C : Cfg} {q : Rq} {σ σ' : Sg} (h : Core σ σ') : (apS C q σ').2 = (apS C q σ).2 ∧ (apS C q σ').1.now = (apS C q σ).1.now ∧ (apS C q σ').1.rs = (apS C q σ).1.rs ∧ (apS C q σ').1.ls = (apS C q σ).1.ls := by
  cases σ with
  | mk a1 a2 a3 a4 a5 a6 a7 a8 a9 a10 a11 a12 a13 a14 a15 =>
  cases σ' with
  | mk b1 b2 b3 b4 b5 b6 b7 b8 b9 b10 b11 b12 b13 b14 b15 =>
  obtain ⟨h1, h2, h3, h4⟩ := h
  simp only at h1 h2 h3 h4
  subst h1 h2 h3 h4
  unfold apS
  by_cases c1 : q.op = 1
  · rw [if_pos c1, if_pos c1]; exact ⟨rfl, rfl, rfl, rfl⟩
  rw [if_neg c1, if_neg c1]
  by_cases c2 : q.op = 2
  · rw [if_pos c2, if_pos c2]; exact ⟨rfl, rfl, rfl, rfl⟩
  rw [if_neg c2, if_neg c2]
  by_cases c3 : q.op = 3
  · rw [if_pos c3, if_pos c3]; exact ⟨rfl, rfl, rfl, rfl⟩
  rw [if_neg c3, if_neg c3]
  by_cases c4 : q.op = 4
  · rw [if_pos c4, if_pos c4]; exact ⟨rfl, rfl, rfl, rfl⟩
  rw [if_neg c4, if_neg c4]
  by_cases c5 : q.op = 5
  · rw [if_pos c5, if_pos c5]; exact ⟨rfl, rfl, rfl, rfl⟩
  rw [if_neg c5, if_neg c5]
  by_cases c6 : q.op = 6
  · rw [if_pos c6, if_pos c6]; exact ⟨rfl, rfl, rfl, rfl⟩
  rw [if_neg c6, if_neg c6]
  by_cases c7 : q.op = 7
  · rw [if_pos c7, if_pos c7]; exact ⟨rfl, rfl, rfl, rfl⟩
  rw [if_neg c7, if_neg c7]
  by_cases c8 : q.op = 8
  · rw [if_pos c8, if_pos c8]; exact ⟨rfl, rfl, rfl, rfl⟩
  rw [if_neg c8, if_neg c8]
  by_cases c9 : q.op = 9
  · rw [if_pos c9, if_pos c9]
    refine ⟨rfl, ?_⟩
    show (tkS C _).now = (tkS C _).now ∧ (tkS C _).rs = (tkS C _).rs ∧ (tkS C _).ls = (tkS C _).ls
    unfold tkS
    simp only
    split <;> exact ⟨rfl, rfl, rfl⟩
  rw [if_neg c9, if_neg c9]
  exact ⟨rfl, rfl, rfl, rfl⟩
theorem rplL_snoc (C : Cfg) (x : List Int) : ∀ (l : List (List Int)) (σ : Sg), rplL C (l ++ [x]) σ = match rplL C l σ with
    | none => none
    | some σ' => rplS C x σ'
  | [], σ => by
    show (match rplS C x σ with | none => none | some σ' => some σ') = rplS C x σ
    cases rplS C x σ <;> rfl
  | y :: l, σ => by
    rw [List.cons_append, rplL, rplL]
    cases rplS C y σ with
    | none => rfl
    | some σ' => exact rplL_snoc C x l σ'
theorem rplS_seq {C : Cfg} {x : List Int} {σ σ' : Sg} (h : rplS C x σ = some σ') : σ'.seq = σ.seq + 1 ∧ (((par x).1 : Nat) : Int) = σ.seq + 1 := by
  unfold rplS at h
  split at h
  · rename_i q
    cases h
    exact ⟨rfl, q.2.1⟩
  · cases h
/-- a request that is read back from its bytes -/
def Rb (q : Rq) : Prop := dec (enc q) = (q, 0)
theorem Rb.of {bs : List Int} (hb : By bs) (h : (dec bs).2 = 0) : Rb (dec bs).1 := dec_enc hb h
theorem par_rb {seq : Int} {q : Rq} (hs : N63 seq) (h : Rb q) : par (ent seq q) = (seq.toNat, q, true) := by
  unfold par ent
  rw [rNum_uI hs]
  unfold Rb at h
  simp only [Bool.false_eq_true, if_false, h]
  rfl
theorem encLs_by (ls : List Leg) : By (encLs ls) := fun x hx => by
  unfold encLs at hx
  obtain ⟨l, _, hl⟩ := List.mem_flatMap.1 hx
  rcases List.mem_append.1 hl with q | q
  · exact uI_by _ x q
  · exact uI_by _ x q
theorem encLegs_by (ls : List Leg) : By (encLegs ls) := (uI_by _).app (encLs_by ls)
theorem enc_by {q : Rq} (ho : 0 ≤ q.op ∧ q.op ≤ 255) : By (enc q) := by
  unfold enc encB
  refine By.cons ho ?_
  repeat' split
  all_goals repeat' apply By.app
  all_goals first | exact uI_by _ | exact encLegs_by _ | exact encLs_by _ | exact By.nil
theorem ent_by {s : Int} {q : Rq} (ho : 0 ≤ q.op ∧ q.op ≤ 255) : By (ent s q) := (uI_by _).app (enc_by ho)
theorem encRec_by (r : Rec) : By (encRec r) := by
  unfold encRec
  repeat' apply By.app
  all_goals first | exact uI_by _ | exact encLegs_by _ | exact encLs_by _
theorem encIds_by (l : List Int) : By (encIds l) := fun x hx => by
  unfold encIds at hx
  obtain ⟨y, _, hl⟩ := List.mem_flatMap.1 hx
  exact uI_by _ x hl
theorem encImg_by (im : Img) : By (encImg im) := by
  unfold encImg
  have h1 : By (encRs im.rs) := fun x hx => by
    unfold encRs at hx
    obtain ⟨r, _, hl⟩ := List.mem_flatMap.1 hx
    exact encRec_by r x hl
  have h2 : By (encLns im.ls) := fun x hx => by
    unfold encLns at hx
    obtain ⟨l, _, hl⟩ := List.mem_flatMap.1 hx
    exact ((uI_by _).app (encIds_by l)) x hl
  refine ((((((By.app ?_ (uI_by _)).app (uI_by _)).app (uI_by _)).app (uI_by _)).app h1).app (uI_by _)).app h2
  exact By.cons ⟨by decide, by decide⟩ By.nil
/-- the state of an engine and its journal in a run without failures -/
structure RgI (C : Cfg) (σ : Sg) (J : Jr) : Prop where
  g : SGd C σ
  dn : σ.down = false
  off : J.off = false
  lf : J.left = 0
  tl : σ.tail = ((J.log.length : Nat) : Int)
  sf : J.safe ≤ J.log.length
  lo : σ.loose = (((J.log.length - J.safe : Nat)) : Int)
  jb : JBy J
  rp : ∃ σ1, opn1 C J = some σ1 ∧ Core σ σ1
theorem due0 {J : Jr} (h : J.left = 0) : dueJ J = J := by unfold dueJ; rw [if_pos h, ← h]
/-- a snapshot taken -/
def snJ (C : Cfg) (σ : Sg) (J : Jr) : Jr := { J with has := true, snap := encImg (img C σ), log := [], safe := 0 }
def snS (σ : Sg) : Sg := { σ with tail := 0, loose := 0, ss := w1 σ.ss }
section
variable {C : Cfg} {σ σ' : Sg} {J J' : Jr} {q : Rq}
theorem snapJ0 (ho : J.off = false) (hl : J.left = 0) (st : List Int) : snapJ J st = if J.ms < ((st.length : Nat) : Int) then (J, 18) else ({ J with has := true, snap := st, log := [], safe := 0 }, 0) := by
  unfold snapJ
  rw [if_neg (by rw [ho]; decide), due0 hl, if_neg (show ¬ J.left = 1 by omega)]
theorem comJ0 (ho : J.off = false) (hl : J.left = 0) : comJ J = ({ J with safe := J.log.length }, 0) := by
  unfold comJ
  rw [if_neg (by rw [ho]; decide), due0 hl, if_neg (show ¬ J.left = 1 by omega)]
theorem appJ0 (ho : J.off = false) (hl : J.left = 0) {x : List Int} (h : ((x.length : Nat) : Int) ≤ roomR J) (hx : 0 < x.length) : appJ J x = ({ J with log := J.log ++ [x] }, 0) := by
  have hr : roomR J ≤ J.mr ∨ roomR J = 0 := by
    unfold roomR
    simp only
    repeat' split
    all_goals omega
  unfold appJ
  rw [if_neg (by rw [ho]; decide), if_neg (by omega), if_neg (by omega), if_neg (show ¬ J.left = 1 by omega), due0 (J := { J with log := J.log ++ [x] }) hl]
theorem snapS0 (h : RgI C σ J) : snapS C σ J = (σ, J, 17) ∧ J.ms < (((encImg (img C σ)).length : Nat) : Int) ∨ snapS C σ J = (snS σ, snJ C σ J, 0) := by
  unfold snapS
  rw [snapJ0 h.off h.lf]
  by_cases h2 : J.ms < (((encImg (img C σ)).length : Nat) : Int)
  · rw [if_pos h2, if_neg (show ¬ (18 : Int) = 0 by decide), if_pos rfl]
    exact .inl ⟨rfl, h2⟩
  · rw [if_neg h2, if_pos rfl]
    exact .inr rfl
theorem imE (cv : CV C) (hmb : C.mb ≤ 4000) (g : SGd C σ) : ImE (img C σ) := by
  have hlen := g.len
  have al := cv.al.2
  have hll := g.li.len
  have hw : waits σ.rs ≤ σ.rs.length := List.countP_le_length
  have hwt := g.li.wt g.ids
  exact ⟨g.imn cv _, fp_N C, fun r hr => (g.st9 r hr).2, by show σ.rs.length ≤ _; omega, by show σ.ls.length ≤ _; omega, fun l hl => by have := lens_le hl; show l.length ≤ _; have e : (img C σ).ls = σ.ls := rfl; rw [e] at this; omega⟩
theorem encImg_le (cv : CV C) (hmb : C.mb ≤ 4000) (g : SGd C σ) : (encImg (img C σ)).length ≤ 1000000 := by
  have hlen := g.len
  have al := cv.al.2
  have hll := g.li.len
  have hw : waits σ.rs ≤ σ.rs.length := List.countP_le_length
  have hwt := g.li.wt g.ids
  have : (encImg (img C σ)).length ≤ 46 + 207 * σ.rs.length + 9 * σ.ls.length + 9 * lens σ.ls := encImg_len (im := img C σ) (fun r hr => (g.rn r hr).ll)
  omega
/-- after a snapshot all is as it was -/
theorem RgI.snap (cv : CV C) (hmb : C.mb ≤ 4000) (h : RgI C σ J) : RgI C (snS σ) (snJ C σ J) := by
  have hc : chkImg C (img C σ) = true := h.g.chk cv
  have hd := decImg_enc (imE cv hmb h.g)
  have e0 : opn0 C (snJ C σ J) = some { (sg0 C).im (img C σ) with res := true } := by
    have e1 : (snJ C σ J).has = true := rfl
    have e2 : (snJ C σ J).snap = encImg (img C σ) := rfl
    unfold opn0
    rw [e2, hd, if_pos e1, if_pos ⟨rfl, hc⟩]
  refine ⟨h.g, h.dn, h.off, h.lf, rfl, Nat.le_refl _, rfl, ⟨encImg_by _, (fun x hx => by cases hx), encImg_le cv hmb h.g⟩, ⟨{ (sg0 C).im (img C σ) with res := true }, ?_, ⟨rfl, rfl, rfl, rfl⟩⟩⟩
  unfold opn1
  rw [e0]
  rfl
/-- counters do not matter -/
theorem RgI.same (h : RgI C σ J) (hc : Core σ σ') (h1 : σ'.down = σ.down) (h2 : σ'.tail = σ.tail) (h3 : σ'.loose = σ.loose) : RgI C σ' J := by
  obtain ⟨σ1, r1, r2⟩ := h.rp
  exact ⟨hc.gd h.g, by rw [h1]; exact h.dn, h.off, h.lf, by rw [h2]; exact h.tl, h.sf, by rw [h3]; exact h.lo, h.jb, ⟨σ1, r1, hc.symm.trans r2⟩⟩
theorem refS_o (code : Int) (σ : Sg) : (refS code σ).down = σ.down ∧ (refS code σ).tail = σ.tail ∧ (refS code σ).loose = σ.loose ∧ (refS code σ).ss = σ.ss := by
  unfold refS
  split <;> exact ⟨rfl, rfl, rfl, rfl⟩
theorem RgI.ref (h : RgI C σ J) (code : Int) : RgI C (refS code σ) J := h.same (refS_same code σ).core (refS_o code σ).1 (refS_o code σ).2.1 (refS_o code σ).2.2.1
/-- room is made, or not -/
theorem RgI.room (cv : CV C) (hmb : C.mb ≤ 4000) (h : RgI C σ J) (n : Int) : RgI C (roomS C σ J n).1 (roomS C σ J n).2.1 ∧ ((roomS C σ J n).2.2 = 0 ∧ n ≤ roomR (roomS C σ J n).2.1 ∨ (roomS C σ J n).2.2 = 17) := by
  unfold roomS
  by_cases h1 : n ≤ roomR J
  · rw [if_pos h1]; exact ⟨h, .inl ⟨rfl, h1⟩⟩
  · rw [if_neg h1]
    by_cases h2 : σ.tail = 0
    · rw [if_pos h2]; exact ⟨h, .inr rfl⟩
    · rw [if_neg h2]
      rcases snapS0 h with ⟨q, _⟩ | q
      · rw [q, if_neg (show ¬ (17 : Int) = 0 by decide)]
        exact ⟨h, .inr rfl⟩
      · rw [q, if_pos rfl]
        refine ⟨h.snap cv hmb, ?_⟩
        by_cases h3 : roomR (snJ C σ J) < n
        · exact .inr (by rw [if_pos h3])
        · exact .inl ⟨by rw [if_neg h3], by show n ≤ roomR (snJ C σ J); omega⟩
theorem apS_o (C : Cfg) (q : Rq) (σ : Sg) : (apS C q σ).1.down = σ.down ∧ (apS C q σ).1.ss = σ.ss ∧ (apS C q σ).1.res = σ.res ∧ (apS C q σ).1.sp = σ.sp := by
  unfold apS mvS tkS
  repeat' split
  all_goals exact ⟨rfl, rfl, rfl, rfl⟩
/-- an entry is written -/
theorem RgI.write (cv : CV C) (h : RgI C σ J) (hN : XprN q) (hrb : Rb q) (hC : isC q.op = true) (hv : valid C σ.now q = 0) (h0 : (apS C q σ).2.code = 0) (hs : σ.seq + 1 ≤ 9223372036854775807) :
    RgI C { (apS C q σ).1 with seq := (apS C q σ).1.seq + 1, tail := (apS C q σ).1.tail + 1, loose := (apS C q σ).1.loose + 1 } { J with log := J.log ++ [ent (σ.seq + 1) q] } := by
  have hk := apS_keep C q σ
  have ho := apS_o C q σ
  have hsq := h.g.seq
  have hnow := h.g.now
  refine ⟨?_, ?_, h.off, h.lf, ?_, ?_, ?_, ⟨h.jb.s, ?_, h.jb.n⟩, ?_⟩
  · show Gd C ((apS C q σ).1.seq + 1) _ _ _
    rw [hk.2.1]
    exact apS_gd cv h.g hv hs h0
  · show (apS C q σ).1.down = false
    rw [ho.1]; exact h.dn
  · show (apS C q σ).1.tail + 1 = _
    rw [hk.2.2.1, h.tl]
    simp
  · show J.safe ≤ (J.log ++ [ent (σ.seq + 1) q]).length
    have := h.sf
    rw [List.length_append]; simp; omega
  · show (apS C q σ).1.loose + 1 = (((J.log ++ [ent (σ.seq + 1) q]).length - J.safe : Nat) : Int)
    rw [hk.2.2.2, h.lo]
    have := h.sf
    rw [List.length_append, List.length_singleton]
    omega
  · intro x hx
    rcases List.mem_append.1 hx with q1 | q1
    · exact h.jb.l x q1
    · rw [List.mem_singleton.1 q1]
      exact ent_by (by have := hN.op; omega)
  · obtain ⟨σ1, r1, r2⟩ := h.rp
    have hcore := apS_core (C := C) (q := q) r2
    have hsr : rplS C (ent (σ.seq + 1) q) σ1 = some { (apS C q σ1).1 with seq := σ1.seq + 1, sp := w1 (apS C q σ1).1.sp } := by
      unfold rplS
      rw [par_rb ⟨by omega, hs⟩ hrb]
      rw [if_pos ⟨rfl, by simp only; rw [r2.seq]; omega, hC, by simp only; rw [r2.now]; exact hv, by simp only; rw [hcore.1]; exact h0⟩]
    refine ⟨{ (apS C q σ1).1 with seq := σ1.seq + 1, sp := w1 (apS C q σ1).1.sp }, ?_, ⟨hcore.2.1, hcore.2.2.1, hcore.2.2.2, ?_⟩⟩
    · show opn1 C { J with log := J.log ++ [ent (σ.seq + 1) q] } = some { (apS C q σ1).1 with seq := σ1.seq + 1, sp := w1 (apS C q σ1).1.sp }
      unfold opn1 at r1 ⊢
      have e0 : opn0 C { J with log := J.log ++ [ent (σ.seq + 1) q] } = opn0 C J := rfl
      rw [e0]
      cases h00 : opn0 C J with
      | none => rw [h00] at r1; cases r1
      | some σ0 =>
        rw [h00] at r1
        show rplL C (J.log ++ [ent (σ.seq + 1) q]) σ0 = _
        rw [rplL_snoc]
        have r1' : rplL C J.log σ0 = some σ1 := r1
        rw [r1']
        exact hsr
    · show σ1.seq + 1 = (apS C q σ).1.seq + 1
      rw [r2.seq, hk.2.1]
theorem RgI.chg (cv : CV C) (hmb : C.mb ≤ 4000) (h : RgI C σ J) (hN : XprN q) (hrb : Rb q) (hC : isC q.op = true) (hv : valid C σ.now q = 0) (hs : σ.seq + 1 ≤ 9223372036854775807) : RgI C (chgS C q σ J).1 (chgS C q σ J).2.1 := by
  unfold chgS
  simp only
  have h1 : RgI C { σ with ent := ent (σ.seq + 1) q } J := h.same ⟨rfl, rfl, rfl, rfl⟩ rfl rfl rfl
  have hsame := roomS_same C { σ with ent := ent (σ.seq + 1) q } J (((ent (σ.seq + 1) q).length : Nat) : Int)
  obtain ⟨h2, hc⟩ := h1.room cv hmb (((ent (σ.seq + 1) q).length : Nat) : Int)
  generalize roomS C { σ with ent := ent (σ.seq + 1) q } J (((ent (σ.seq + 1) q).length : Nat) : Int) = r at hsame h2 hc ⊢
  have e1 : r.1.seq = σ.seq := hsame.seq
  have v1 : valid C r.1.now q = 0 := by rw [hsame.now]; exact hv
  by_cases c0 : r.2.2 = 0
  · rw [if_pos c0]
    have hroom : (((ent (σ.seq + 1) q).length : Nat) : Int) ≤ roomR r.2.1 := by
      rcases hc with q | q
      · exact q.2
      · rw [c0] at q; exact absurd q (by decide)
    by_cases c1 : (apS C q r.1).2.code = 0
    · rw [if_pos c1]
      have hw := h2.write cv hN hrb hC v1 c1 (by omega)
      rw [e1] at hw
      unfold wrtS
      rw [appJ0 h2.off h2.lf hroom (ent_len hN.ll).1, if_pos rfl, if_pos rfl]
      exact hw.same ⟨rfl, rfl, rfl, rfl⟩ rfl rfl rfl
    · rw [if_neg c1, apS_no c1]
      exact h2.ref _
  · rw [if_neg c0]
    exact h2.ref _
theorem RgI.stg (cv : CV C) (hmb : C.mb ≤ 4000) (h : RgI C σ J) (hR : RqN q) (hrb : xpr q = true → Rb q) (hs : σ.seq + 1 ≤ 9223372036854775807) : RgI C (stgS C q σ J).1 (stgS C q σ J).2.1 := by
  unfold stgS
  simp only
  have h1 : RgI C { σ with sr := w1 σ.sr } J := h.same ⟨rfl, rfl, rfl, rfl⟩ rfl rfl rfl
  rw [if_neg (by rw [h.dn]; decide)]
  by_cases c0 : xpr q = false
  · rw [if_pos c0]; exact h1.ref 1
  · rw [if_neg c0]
    have hx : xpr q = true := by simpa using c0
    have hN := xprN hR hx
    by_cases c1 : valid C σ.now q = 0
    · rw [if_pos c1]
      by_cases c2 : isQ q.op = true
      · rw [if_pos c2]
        show RgI C (ansS C q { σ with sr := w1 σ.sr }).1 J
        unfold ansS
        split
        · exact h1.same ⟨rfl, rfl, rfl, rfl⟩ rfl rfl rfl
        · exact h1.ref _
      · rw [if_neg c2]
        have hC : isC q.op = true := by
          have := hN.op
          unfold isQ at c2
          unfold isC
          simp only [Bool.and_eq_true, decide_eq_true_eq] at c2 ⊢
          omega
        exact h1.chg cv hmb hN (hrb hx) hC c1 hs
    · rw [if_neg c1]; exact h1.ref (valid C σ.now q)
theorem RgI.stb {bs : List Int} (cv : CV C) (hmb : C.mb ≤ 4000) (h : RgI C σ J) (hB : By bs) (hs : σ.seq + 1 ≤ 9223372036854775807) : RgI C (stbS C bs σ J).1 (stbS C bs σ J).2.1 := by
  unfold stbS
  rw [if_neg (by rw [h.dn]; decide)]
  split
  · rename_i h0; exact h.stg cv hmb (dec_x h0).rq (fun _ => Rb.of hB h0) hs
  · exact (h.same ⟨rfl, rfl, rfl, rfl⟩ rfl rfl rfl : RgI C { σ with sr := w1 σ.sr } J).ref (((dec bs).2 : Nat) : Int)
/-- all is made safe -/
theorem RgI.set (cv : CV C) (hmb : C.mb ≤ 4000) (h : RgI C σ J) : RgI C (setS C σ J).1 (setS C σ J).2.1 ∧ (setS C σ J).1.loose = 0 ∧ (setS C σ J).2.2 = 0 := by
  unfold setS
  rw [if_neg (by rw [h.dn]; decide)]
  by_cases c0 : σ.loose = 0
  · rw [if_pos c0]; exact ⟨h, c0, rfl⟩
  · rw [if_neg c0, comJ0 h.off h.lf, if_pos rfl]
    have h1 : RgI C { σ with loose := 0 } { J with safe := J.log.length } := by
      obtain ⟨σ1, r1, r2⟩ := h.rp
      refine ⟨h.g, h.dn, h.off, h.lf, h.tl, Nat.le_refl _, ?_, ⟨h.jb.s, h.jb.l, h.jb.n⟩, ⟨σ1, r1, ⟨r2.now, r2.rs, r2.ls, r2.seq⟩⟩⟩
      show (0 : Int) = ((J.log.length - J.log.length : Nat) : Int)
      simp
    unfold aftS
    split
    · exact ⟨h1, rfl, rfl⟩
    · rcases snapS0 h1 with ⟨q, _⟩ | q
      · rw [q, if_neg (show ¬ (17 : Int) = 19 by decide)]
        exact ⟨h1, rfl, rfl⟩
      · rw [q, if_neg (show ¬ (0 : Int) = 19 by decide)]
        exact ⟨h1.snap cv hmb, rfl, rfl⟩
theorem RgI.hnd {bs : List Int} (cv : CV C) (hmb : C.mb ≤ 4000) (h : RgI C σ J) (hB : By bs) (hs : σ.seq + 1 ≤ 9223372036854775807) : RgI C (hndS C bs σ J).1 (hndS C bs σ J).2.1 ∧ (hndS C bs σ J).1.loose = 0 ∧ (hndS C bs σ J).2.2 = (stbS C bs σ J).2.2 := by
  have h1 := (h.stb cv hmb hB hs).set cv hmb
  unfold hndS
  rw [if_pos h1.2.2]
  exact ⟨h1.1, h1.2.1, rfl⟩
/-- the number grows by one at most -/
theorem chgS_q (C : Cfg) (q : Rq) (σ : Sg) (J : Jr) : (chgS C q σ J).1.seq = σ.seq ∨ (chgS C q σ J).1.seq = σ.seq + 1 := by
  unfold chgS
  simp only
  have hsame := roomS_same C { σ with ent := ent (σ.seq + 1) q } J (((ent (σ.seq + 1) q).length : Nat) : Int)
  generalize roomS C { σ with ent := ent (σ.seq + 1) q } J (((ent (σ.seq + 1) q).length : Nat) : Int) = r at hsame ⊢
  have e1 : r.1.seq = σ.seq := hsame.seq
  have hk := (apS_keep C q r.1).2.1
  have hr := fun c (s : Sg) => (refS_same c s).seq
  by_cases c0 : r.2.2 = 0
  · rw [if_pos c0]
    by_cases c1 : (apS C q r.1).2.code = 0
    · rw [if_pos c1]
      unfold wrtS
      by_cases c2 : (appJ r.2.1 (ent (σ.seq + 1) q)).2 = 0
      · rw [if_pos c2, if_pos rfl]
        exact .inr (by show (apS C q r.1).1.seq + 1 = _; rw [hk, e1])
      · rw [if_neg c2, if_neg (show ¬ (19 : Int) = 0 by decide)]
        refine .inl ?_
        rw [hr]
        show (apS C q r.1).1.seq = _
        rw [hk, e1]
    · rw [if_neg c1]
      refine .inl ?_
      rw [hr, hk, e1]
  · rw [if_neg c0]
    refine .inl ?_
    rw [hr, e1]
theorem stbS_q (C : Cfg) (bs : List Int) (σ : Sg) (J : Jr) : (stbS C bs σ J).1.seq = σ.seq ∨ (stbS C bs σ J).1.seq = σ.seq + 1 := by
  have hr := fun c (s : Sg) => (refS_same c s).seq
  unfold stbS
  by_cases c0 : σ.down = true
  · rw [if_pos c0]; exact .inl (by rw [hr])
  · rw [if_neg c0]
    by_cases c1 : (dec bs).2 = 0
    · rw [if_pos c1]
      unfold stgS
      simp only
      rw [if_neg c0]
      by_cases c2 : xpr (dec bs).1 = false
      · rw [if_pos c2]; exact .inl (by rw [hr])
      · rw [if_neg c2]
        by_cases c3 : valid C σ.now (dec bs).1 = 0
        · rw [if_pos c3]
          by_cases c4 : isQ (dec bs).1.op = true
          · rw [if_pos c4]
            exact .inl (ansS_same (C := C) (q := (dec bs).1) (σ := { σ with sr := w1 σ.sr })).seq
          · rw [if_neg c4]
            exact chgS_q C (dec bs).1 { σ with sr := w1 σ.sr } J
        · rw [if_neg c3]; exact .inl (by rw [hr])
    · rw [if_neg c1]; exact .inl (by rw [hr])
theorem hndS_q (C : Cfg) (bs : List Int) (σ : Sg) (J : Jr) : (hndS C bs σ J).1.seq = σ.seq ∨ (hndS C bs σ J).1.seq = σ.seq + 1 := by
  unfold hndS
  show (setS C (stbS C bs σ J).1 (stbS C bs σ J).2.1).1.seq = _ ∨ (setS C (stbS C bs σ J).1 (stbS C bs σ J).2.1).1.seq = _
  rw [(setS_same C _ _).seq]
  exact stbS_q C bs σ J
end
end Go.Proofs.Qxb6500896aGreatDoor
