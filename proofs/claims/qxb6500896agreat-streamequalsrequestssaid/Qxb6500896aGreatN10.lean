import Derived.Test.Qxb6500896aGreatN9
namespace Go.Proofs.Qxb6500896aGreat
open Go.Sh Go.RowKit
set_option linter.unusedVariables false
set_option linter.unusedSimpArgs false

theorem uI_1 {x : Int} (h : 0 ≤ x ∧ x < 128) : (uI x).length = 1 := by
  unfold uI uv
  rw [uvF_small (by omega)]; rfl
theorem encLs_1 {ls : List Leg} (h : ∀ l ∈ ls, (0 ≤ l.a ∧ l.a < 128) ∧ 0 ≤ l.s ∧ l.s < 128) : (encLs ls).length = 2 * ls.length := by
  induction ls with
  | nil => simp [encLs]
  | cons l ls ih =>
    have h1 := h l List.mem_cons_self
    have h2 := ih fun l hl => h l (List.mem_cons_of_mem _ hl)
    have : encLs (l :: ls) = (uI l.a ++ uI l.s) ++ encLs ls := rfl
    rw [this, List.length_append, List.length_append, List.length_cons, uI_1 h1.1, uI_1 h1.2]
    omega
theorem encLegs_1 {ls : List Leg} (hl : ls.length ≤ 8) (h : ∀ l ∈ ls, (0 ≤ l.a ∧ l.a < 128) ∧ 0 ≤ l.s ∧ l.s < 128) : (encLegs ls).length ≤ 17 := by
  unfold encLegs
  rw [List.length_append, encLs_1 h, uI_1 ⟨by omega, by omega⟩]
  omega
theorem sh_ex {C : Cfg} {now st ex ln a0 s0 : Int} {n : Nat} (h : Sh C now st ex ln a0 s0 n) : (ex ≤ now + C.ht ∨ ex = 0) ∧ (ln = 0 ∨ ln ≤ ((C.ats.length : Nat) : Int)) := by
  unfold Sh Bk Sd at h; omega
section
variable {σ σ' : Sg} {J J' : Jr} {q : Rq} {bs : List Int} {p : Rp}
theorem encRec_1 (g : SGd park σ) {r : Rec} (hr : r ∈ σ.rs) : (encRec r).length ≤ 23 := by
  have rn := g.rn r hr
  have rc := g.rc r hr
  have st := g.st9 r hr
  obtain ⟨i, hi, rfl⟩ := List.mem_iff_getElem.1 hr
  have hid := g.ids i hi
  have hlen := g.len
  have hnow := g.now
  have hx := sh_ex rc.sh
  have e1 : park.mb = 26 := rfl
  have e2 : park.mc = 36 := rfl
  have e3 : park.ht = 3 := rfl
  have e4 : park.mp = 5 := rfl
  have e5 : park.hz = 8 := rfl
  have e6 : ((park.ats.length : Nat) : Int) = 3 := rfl
  rw [e1] at hlen
  rw [e2] at hnow
  rw [e3, e6] at hx
  have s1 := rc.s1
  rw [e4] at s1
  have lg : ∀ l ∈ σ.rs[i].legs, (0 ≤ l.a ∧ l.a < 128) ∧ 0 ≤ l.s ∧ l.s < 128 := fun l hl => by
    have a1 := rc.lg l hl
    rw [e5, e6] at a1
    have a2 := rn.lg l hl
    exact ⟨⟨a2.1.1, by omega⟩, a2.2.1, by omega⟩
  have hl := encLegs_1 rn.ll lg
  have cl := rc.cl
  have c0 := rn.cl.1
  have z0 := rn.sz.1
  have x0 := rn.ex.1
  have n0 := rn.ln.1
  unfold encRec
  simp only [List.length_append]
  rw [uI_1 ⟨by omega, by omega⟩, uI_1 ⟨by omega, by omega⟩, uI_1 ⟨by omega, by omega⟩, uI_1 ⟨by omega, by omega⟩, uI_1 ⟨by omega, by omega⟩, uI_1 ⟨by omega, by omega⟩]
  omega
theorem encRs_1 {rs : List Rec} (h : ∀ r ∈ rs, (encRec r).length ≤ 23) : (encRs rs).length ≤ 23 * rs.length := by
  induction rs with
  | nil => simp [encRs]
  | cons r rs ih =>
    have h1 := h r List.mem_cons_self
    have h2 := ih fun r hr => h r (List.mem_cons_of_mem _ hr)
    have : encRs (r :: rs) = encRec r ++ encRs rs := rfl
    rw [this, List.length_append, List.length_cons]
    omega
/-- a snapshot of the park fits -/
theorem encImg_1 (g : SGd park σ) : (encImg (img park σ)).length ≤ 1200 := by
  have h1 := encRs_1 (rs := σ.rs) fun r hr => encRec_1 g hr
  have h2 := encLns_len σ.ls
  have hw : waits σ.rs ≤ σ.rs.length := List.countP_le_length
  have hwt := g.li.wt g.ids
  have hll := g.li.len
  have hlen := g.len
  have e1 : park.mb = 26 := rfl
  have e6 : park.ats.length = 3 := rfl
  rw [e1] at hlen
  rw [e6] at hll
  have b1 := uI_len (img park σ).rules
  have b2 := uI_len (img park σ).seq
  have b3 := uI_len (img park σ).now
  have b4 := uI_len ((img park σ).rs.length : Nat)
  have b5 := uI_len ((img park σ).ls.length : Nat)
  unfold encImg
  simp only [List.length_append, List.length_singleton]
  have e2 : (img park σ).rs = σ.rs := rfl
  have e3 : (img park σ).ls = σ.ls := rfl
  rw [e2] at b4 ⊢
  rw [e3] at b5 ⊢
  omega
/-- there is room for an entry, or room is made -/
theorem room_0 {n : Int} (h : RgI park σ J) (hl : Jlm 48 72 1200 J) (hn : n ≤ 48) : (roomS park σ J n).2.2 = 0 := by
  unfold roomS
  by_cases h1 : n ≤ roomR J
  · rw [if_pos h1]
  · rw [if_neg h1]
    have hr : ∀ J' : Jr, J'.mr = 48 → J'.cp = 72 → J'.log = [] → roomR J' = 48 := fun J' a b c => by
      unfold roomR
      rw [a, b, c]
      rfl
    by_cases h2 : σ.tail = 0
    · exfalso
      have := h.tl
      rw [hr J hl.mr hl.cp (List.length_eq_zero_iff.1 (by omega))] at h1
      omega
    · rw [if_neg h2]
      rcases snapS0 h with ⟨_, q⟩ | q
      · exfalso
        have := encImg_1 h.g
        rw [hl.ms] at q
        omega
      · rw [q, if_pos rfl]
        show (if roomR (snJ park σ J) < n then (17 : Int) else 0) = 0
        rw [hr (snJ park σ J) hl.mr hl.cp rfl, if_neg (by omega)]
/-- what a hold, or a quote of it, answers -/
def hqR (C : Cfg) (op : Int) (q : Rq) (now : Int) (rs : List Rec) : Rp :=
  if valid C now q = 0 then (if tCheck C q.cl q.sz q.legs rs = 0 then { rp0 with op := op, id := ((rs.length + 1 : Nat) : Int), ex := now + C.ht } else rf (tCheck C q.cl q.sz q.legs rs)) else rf (valid C now q)
theorem rf_code {c : Int} : (rf c).code = c := rfl
theorem hold_rp (h : RgI park σ J) (hl : Jlm 48 72 1200 J) (hN : XprN q) (hx : xpr q = true) (ho : q.op = 1) : (stgS park q σ J).2.2 = hqR park 1 q σ.now σ.rs := by
  unfold stgS hqR
  simp only
  have h1 : RgI park { σ with sr := w1 σ.sr } J := h.same ⟨rfl, rfl, rfl, rfl⟩ rfl rfl rfl
  rw [if_neg (by rw [h.dn]; decide), if_neg (by rw [hx]; decide)]
  by_cases c1 : valid park σ.now q = 0
  · rw [if_pos c1, if_pos c1, if_neg (by rw [ho]; decide)]
    obtain ⟨⟨cl, sz⟩, lo⟩ := valid_hold c1 (.inl ho)
    unfold chgS
    simp only
    have h2 : RgI park { σ with sr := w1 σ.sr, ent := ent (σ.seq + 1) q } J := h1.same ⟨rfl, rfl, rfl, rfl⟩ rfl rfl rfl
    have hnow := h.g.now
    have e2 : park.mc = 36 := rfl
    have e4 : park.mp = 5 := rfl
    have e5 : park.hz = 8 := rfl
    have e6 : ((park.ats.length : Nat) : Int) = 3 := rfl
    rw [e2] at hnow
    rw [e4] at sz
    have hlg := encLegs_1 hN.ll fun l hl => by
      have a1 := lo.lv l hl
      rw [e5, e6] at a1
      exact ⟨⟨a1.1.1, by omega⟩, by omega, by omega⟩
    have hlen : (((ent (σ.seq + 1) q).length : Nat) : Int) ≤ 48 := by
      have := uI_len (σ.seq + 1)
      unfold ent enc encB
      rw [if_pos (.inl ho)]
      simp only [List.length_append, List.length_cons]
      rw [uI_1 (x := q.cl) ⟨by omega, by omega⟩, uI_1 (x := q.sz) ⟨by omega, by omega⟩]
      omega
    have r0 := room_0 h2 hl hlen
    have hsame := roomS_same park { σ with sr := w1 σ.sr, ent := ent (σ.seq + 1) q } J (((ent (σ.seq + 1) q).length : Nat) : Int)
    obtain ⟨h3, hc⟩ := h2.room park_cv park_mb (((ent (σ.seq + 1) q).length : Nat) : Int)
    generalize roomS park { σ with sr := w1 σ.sr, ent := ent (σ.seq + 1) q } J (((ent (σ.seq + 1) q).length : Nat) : Int) = r at r0 hsame h3 hc ⊢
    have en : r.1.now = σ.now := hsame.now
    have er : r.1.rs = σ.rs := hsame.rs
    rw [if_pos r0]
    have hroom : (((ent (σ.seq + 1) q).length : Nat) : Int) ≤ roomR r.2.1 := by
      rcases hc with q | q
      · exact q.2
      · rw [r0] at q; exact absurd q (by decide)
    have ea : apS park q r.1 = ({ r.1 with rs := (tHold park r.1.now q.cl q.sz q.legs r.1.rs).1 }, hoR park q r.1) := by
      unfold apS
      rw [if_pos ho]
    rw [ea]
    simp only
    unfold hoR tHold tHoldR
    rw [en, er]
    by_cases c2 : tCheck park q.cl q.sz q.legs σ.rs = 0
    · simp only [if_pos c2]
      rw [if_pos trivial, if_pos (show rp0.code = 0 from rfl)]
      unfold wrtS
      rw [appJ0 h3.off h3.lf hroom (ent_len hN.ll).1, if_pos rfl, if_pos rfl]
      rw [ho]
    · simp only [if_neg c2]
      rw [if_neg]
      · rfl
      · exact c2
  · rw [if_neg c1, if_neg c1]
theorem quote_rp (h : RgI park σ J) (hx : xpr q = true) (ho : q.op = 22) : (stgS park q σ J).2.2 = hqR park 22 q σ.now σ.rs ∧ (stgS park q σ J).2.1 = J ∧ Core σ (stgS park q σ J).1 ∧ (stgS park q σ J).1.loose = σ.loose ∧ (stgS park q σ J).1.down = false := by
  have hr := fun c (s : Sg) => refS_o c s
  have hs : ∀ c, Core σ (refS c { σ with sr := w1 σ.sr }) := fun c => Core.trans (b := { σ with sr := w1 σ.sr }) ⟨rfl, rfl, rfl, rfl⟩ (refS_same c { σ with sr := w1 σ.sr }).core
  unfold stgS hqR
  simp only
  rw [if_neg (by rw [h.dn]; decide), if_neg (by rw [hx]; decide)]
  by_cases c1 : valid park σ.now q = 0
  · rw [if_pos c1, if_pos c1, if_pos (by rw [ho]; decide)]
    have e1 : qR park q { σ with sr := w1 σ.sr } = qQuo park q { σ with sr := w1 σ.sr } := by
      unfold qR
      rw [if_neg (by omega), if_neg (by omega), if_neg (by omega), if_neg (by omega), if_neg (by omega), if_neg (by omega), if_pos ho]
    unfold ansS
    rw [e1]
    unfold qQuo
    simp only
    by_cases c2 : tCheck park q.cl q.sz q.legs σ.rs = 0
    · simp only [if_pos c2]
      rw [if_pos (show rp0.code = 0 from rfl), ho]
      exact ⟨rfl, trivial, ⟨rfl, rfl, rfl, rfl⟩, rfl, h.dn⟩
    · simp only [if_neg c2]
      rw [if_neg (show ¬ (rf (tCheck park q.cl q.sz q.legs σ.rs)).code = 0 from c2)]
      exact ⟨rfl, trivial, hs (tCheck park q.cl q.sz q.legs σ.rs), (hr (tCheck park q.cl q.sz q.legs σ.rs) { σ with sr := w1 σ.sr }).2.2.1, by rw [(hr _ _).1]; exact h.dn⟩
  · rw [if_neg c1, if_neg c1]
    exact ⟨rfl, rfl, hs (valid park σ.now q), (hr (valid park σ.now q) { σ with sr := w1 σ.sr }).2.2.1, by rw [(hr _ _).1]; exact h.dn⟩
/-- the same request of another kind -/
def Rq.to (q : Rq) (o : Int) : Rq := ⟨o, q.id, q.at', q.sl, q.cl, q.sz, q.li, q.legs⟩
theorem dec_22 (h0 : (dec bs).2 = 0) (ho : (dec bs).1.op = 1) : ∃ r, bs = 1 :: r ∧ dec (22 :: r) = (((dec bs).1.to 22), 0) := by
  cases bs with
  | nil =>
    exfalso
    revert ho
    have : dec [] = (rq0, 1) := by rfl
    rw [this]; decide
  | cons b r =>
    have hb : b = 1 := by
      unfold dec decE at ho h0
      split at h0
      · rename_i q
        rw [if_pos q] at ho
        have e : (decB (rOct (b :: r, false)).1 (rOct (b :: r, false)).2).1.op = b := by
          unfold decB rOct
          simp only
          repeat' split
          all_goals rfl
        rw [← e]; exact ho
      · cases h0
    subst hb
    refine ⟨r, rfl, ?_⟩
    have a1 : decB (rOct ((1 : Int) :: r, false)).1 (rOct ((1 : Int) :: r, false)).2 = (⟨1, 0, 0, 0, ((rNum (r, false)).1 : Nat), ((rNum (rNum (r, false)).2).1 : Nat), 0, (rLegs 8 (rNum (rNum (r, false)).2).2).1⟩, (rLegs 8 (rNum (rNum (r, false)).2).2).2) := by
      unfold decB rOct
      simp only
      rw [if_pos (.inl trivial)]
    have a2 : decB (rOct ((22 : Int) :: r, false)).1 (rOct ((22 : Int) :: r, false)).2 = (⟨22, 0, 0, 0, ((rNum (r, false)).1 : Nat), ((rNum (rNum (r, false)).2).1 : Nat), 0, (rLegs 8 (rNum (rNum (r, false)).2).2).1⟩, (rLegs 8 (rNum (rNum (r, false)).2).2).2) := by
      unfold decB rOct
      simp only
      rw [if_pos (.inr trivial)]
    unfold dec decE at h0 ⊢
    rw [a1] at h0 ⊢
    rw [a2]
    simp only at h0 ⊢
    split at h0
    · rename_i q
      rw [if_pos q, if_pos q]
      rfl
    · cases h0
theorem enc_22 (hB : By bs) (h0 : (dec bs).2 = 0) (ho : (dec bs).1.op = 1) : dec (enc ((dec bs).1.to 22)) = (((dec bs).1.to 22), 0) ∧ By (enc ((dec bs).1.to 22)) ∧ xpr ((dec bs).1.to 22) = true := by
  obtain ⟨r, e, hd⟩ := dec_22 h0 ho
  have hB2 : By (22 :: r) := fun x hx => by
    rcases List.mem_cons.1 hx with q | q
    · subst q; exact ⟨by decide, by decide⟩
    · exact hB x (by rw [e]; exact List.mem_cons_of_mem _ q)
  have h1 := dec_enc hB2 (by rw [hd])
  have h2 := enc_dec hB2 (by rw [hd])
  rw [hd] at h1 h2
  simp only at h1 h2
  refine ⟨h1, by rw [h2]; exact hB2, ?_⟩
  have := (dec_x (bs := 22 :: r) (by rw [hd])).x
  rw [hd] at this
  exact this
/-- a quote asked right before a hold foretells its reply -/
theorem quote_foretells (h : RgI park σ J) (hl : Jlm 48 72 1200 J) (hlo : σ.loose = 0) (hs : σ.seq + 1 ≤ 9223372036854775807) (hB : By bs) (h0 : (dec bs).2 = 0) (ho : (dec bs).1.op = 1)
    (he : hndS park (enc ((dec bs).1.to 22)) σ J = (σ', J', p)) : (if 1 < (eR p).length then (eR p).set 1 1 else eR p) = eR (hndS park bs σ' J').2.2 := by
  obtain ⟨a1, a2, a3⟩ := enc_22 hB h0 ho
  have hN := dec_x h0
  have hi := h.hnd park_cv park_mb a2 hs
  obtain ⟨q1, q2, q3, q4, q5⟩ := quote_rp h a3 rfl
  have est : stbS park (enc ((dec bs).1.to 22)) σ J = stgS park ((dec bs).1.to 22) σ J := by
    unfold stbS
    rw [if_neg (by rw [h.dn]; decide), a1, if_pos rfl]
  have eσ : (hndS park (enc ((dec bs).1.to 22)) σ J).1 = (stgS park ((dec bs).1.to 22) σ J).1 ∧ (hndS park (enc ((dec bs).1.to 22)) σ J).2.1 = J := by
    unfold hndS
    simp only
    rw [est]
    unfold setS
    rw [if_neg (by rw [q5]; decide), if_pos (by rw [q4]; exact hlo)]
    exact ⟨rfl, q2⟩
  rw [est] at hi
  rw [he] at hi eσ
  simp only at hi eσ
  obtain ⟨i1, i2, i3⟩ := hi
  obtain ⟨rfl, rfl⟩ := eσ
  rw [i3, q1]
  have i4 := i1.hnd park_cv park_mb hB (by rw [q3.seq]; exact hs)
  rw [i4.2.2]
  have est2 : stbS park bs (stgS park ((dec bs).1.to 22) σ J').1 J' = stgS park (dec bs).1 (stgS park ((dec bs).1.to 22) σ J').1 J' := by
    unfold stbS
    rw [if_neg (by rw [i1.dn]; decide), if_pos h0]
  rw [est2, hold_rp i1 hl hN hN.x ho, q3.now, q3.rs]
  have ev : valid park σ.now ((dec bs).1.to 22) = valid park σ.now (dec bs).1 := by
    unfold valid
    rw [if_pos (show ((dec bs).1.to 22).op = 1 ∨ ((dec bs).1.to 22).op = 22 from .inr rfl), if_pos (show (dec bs).1.op = 1 ∨ (dec bs).1.op = 22 from .inl ho)]
    rfl
  unfold hqR
  rw [ev]
  have er : ∀ c : Int, c ≠ 0 → (if 1 < (eR (rf c)).length then (eR (rf c)).set 1 1 else eR (rf c)) = eR (rf c) := fun c hc => by
    have : eR (rf c) = [c] := by unfold eR; rw [if_neg (show ¬ (rf c).code = 0 from hc)]; rfl
    rw [this, if_neg (by simp)]
  by_cases c1 : valid park σ.now (dec bs).1 = 0
  · rw [if_pos c1, if_pos c1]
    have et : tCheck park ((dec bs).1.to 22).cl ((dec bs).1.to 22).sz ((dec bs).1.to 22).legs σ.rs = tCheck park (dec bs).1.cl (dec bs).1.sz (dec bs).1.legs σ.rs := rfl
    rw [et]
    by_cases c2 : tCheck park (dec bs).1.cl (dec bs).1.sz (dec bs).1.legs σ.rs = 0
    · simp only [if_pos c2]
      have e1 : ∀ (o i x : Int), (o = 1 ∨ o = 22) → eR { rp0 with op := o, id := i, ex := x } = 0 :: o :: (uI i ++ uI x) := fun o i x ho => by
        unfold eR
        rw [if_pos (show rp0.code = 0 from rfl)]
        unfold eB
        rw [if_pos ho]
        rfl
      rw [e1 22 _ _ (.inr rfl), e1 1 _ _ (.inl rfl), if_pos (by simp)]
      rfl
    · simp only [if_neg c2]
      exact er _ c2
  · rw [if_neg c1, if_neg c1]
    exact er _ c1
end
end Go.Proofs.Qxb6500896aGreat
