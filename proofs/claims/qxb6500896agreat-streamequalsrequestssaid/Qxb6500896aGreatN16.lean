import Derived.Test.Qxb6500896aGreatN15
namespace Go.Proofs.Qxb6500896aGreat
open Go.Sh Go.RowKit
set_option linter.unusedVariables false
set_option linter.unusedSimpArgs false

/-! ### the snapshot of the park fits, and so the log stays short -/
theorem uI_s1 {x : Int} (h : x < 128) : (uI x).length ≤ 1 := by
  unfold uI uv
  rw [uvF_small (by omega)]
  exact Nat.le_refl _
theorem encLs_s1 : ∀ {ls : List Leg}, (∀ l ∈ ls, l.a < 128 ∧ l.s < 128) → (encLs ls).length ≤ 2 * ls.length
  | [], _ => by simp [encLs]
  | l :: ls, h => by
    have h1 := uI_s1 (h l List.mem_cons_self).1
    have h2 := uI_s1 (h l List.mem_cons_self).2
    have ih := encLs_s1 (ls := ls) fun x hx => h x (List.mem_cons_of_mem _ hx)
    have : encLs (l :: ls) = (uI l.a ++ uI l.s) ++ encLs ls := rfl
    rw [this]
    simp only [List.length_append, List.length_cons]
    omega
section
variable {C : Cfg} {σ σ' : Sg} {J J' : Jr} {q : Rq} {a b c : Int}
theorem encRec_13 {q now : Int} {rs : List Rec} {ls : List (List Int)} (g : Gd park q now rs ls) {r : Rec} (hr : r ∈ rs) : (encRec r).length ≤ 13 := by
  have rc := g.rc r hr
  have rn := g.rn r hr
  have hn := g.now
  have hst := g.st9 r hr
  have hid : r.id < 128 := by
    obtain ⟨i, hi, rfl⟩ := List.mem_iff_getElem.1 hr
    have h1 := g.ids i hi
    have h2 := g.len
    have h3 : park.mb = 26 := rfl
    rw [h1]; omega
  have p1 : park.mc = 36 := rfl
  have p2 : park.mp = 5 := rfl
  have p3 : park.ats.length = 3 := rfl
  have p4 : park.hz = 8 := rfl
  have p5 : park.ml = 3 := rfl
  have p6 : park.ht = 3 := rfl
  have hcl := rc.cl
  have hsz := rc.s1
  have hsh : r.ex < 128 ∧ r.ln < 128 ∧ r.legs.length ≤ 3 := by
    have := rc.sh
    unfold Sh Bk Sd at this
    omega
  have e1 := uI_s1 hid
  have e2 := uI_s1 (x := r.st) (by omega)
  have e3 := uI_s1 (x := r.cl) (by omega)
  have e4 := uI_s1 (x := r.sz) (by omega)
  have e5 := uI_s1 hsh.2.1
  have e6 := uI_s1 hsh.1
  have e7 := uI_s1 (x := ((r.legs.length : Nat) : Int)) (by omega)
  have e8 := encLs_s1 (ls := r.legs) fun l hl => by
    have := rc.lg l hl
    omega
  unfold encRec encLegs
  simp only [List.length_append]
  omega
theorem encRs_13 {k : Nat} : ∀ {rs : List Rec}, (∀ r ∈ rs, (encRec r).length ≤ k) → (encRs rs).length ≤ k * rs.length
  | [], _ => by simp [encRs]
  | r :: rs, h => by
    have h1 := h r List.mem_cons_self
    have ih := encRs_13 (rs := rs) fun x hx => h x (List.mem_cons_of_mem _ hx)
    have : encRs (r :: rs) = encRec r ++ encRs rs := rfl
    rw [this, List.length_append, List.length_cons, Nat.mul_add]
    omega
theorem snap_fits (g : SGd park σ) : (encImg (img park σ)).length ≤ 1200 := by
  have h1 := encRs_13 (k := 13) (rs := σ.rs) fun r hr => encRec_13 g hr
  have h2 := g.len
  have p1 : park.mb = 26 := rfl
  have p3 : park.ats.length = 3 := rfl
  have h3 := g.li.len
  have h4 := encLns_len σ.ls
  have hw : waits σ.rs ≤ σ.rs.length := List.countP_le_length
  have hwt := g.li.wt g.ids
  have u1 := uI_len (fp park)
  have u2 := uI_len σ.seq
  have u3 := uI_len σ.now
  have u4 := uI_len (σ.rs.length : Nat)
  have u5 := uI_len (σ.ls.length : Nat)
  unfold encImg img
  simp only [List.length_append, List.length_singleton]
  omega
/-- what is safe does not grow before all is made safe -/
theorem safe_snap (hi : RgI C σ J) : (snapS C σ J).2.1.safe ≤ J.safe := by
  rcases snapS0 hi with ⟨q, _⟩ | q
  · rw [q]; exact Nat.le_refl _
  · rw [q]; exact Nat.zero_le _
theorem safe_room (hi : RgI C σ J) (n : Int) : (roomS C σ J n).2.1.safe ≤ J.safe := by
  unfold roomS
  by_cases h1 : n ≤ roomR J
  · rw [if_pos h1]; exact Nat.le_refl _
  · rw [if_neg h1]
    by_cases h2 : σ.tail = 0
    · rw [if_pos h2]; exact Nat.le_refl _
    · rw [if_neg h2]
      split
      · exact safe_snap hi
      · exact safe_snap hi
theorem safe_chg (cv : CV C) (hmb : C.mb ≤ 4000) (hi : RgI C σ J) (hN : XprN q) : (chgS C q σ J).2.1.safe ≤ J.safe := by
  unfold chgS
  simp only
  have h1 : RgI C { σ with ent := ent (σ.seq + 1) q } J := hi.same ⟨rfl, rfl, rfl, rfl⟩ rfl rfl rfl
  obtain ⟨h2, hc⟩ := h1.room cv hmb (((ent (σ.seq + 1) q).length : Nat) : Int)
  have hl := safe_room h1 (((ent (σ.seq + 1) q).length : Nat) : Int)
  generalize roomS C { σ with ent := ent (σ.seq + 1) q } J (((ent (σ.seq + 1) q).length : Nat) : Int) = r at h2 hc hl ⊢
  by_cases c0 : r.2.2 = 0
  · rw [if_pos c0]
    have hroom : (((ent (σ.seq + 1) q).length : Nat) : Int) ≤ roomR r.2.1 := by
      rcases hc with q | q
      · exact q.2
      · rw [c0] at q; exact absurd q (by decide)
    by_cases c1 : (apS C q r.1).2.code = 0
    · rw [if_pos c1]
      unfold wrtS
      rw [appJ0 h2.off h2.lf hroom (ent_len hN.ll).1, if_pos rfl, if_pos rfl]
      exact hl
    · rw [if_neg c1]; exact hl
  · rw [if_neg c0]; exact hl
theorem safe_stb {bs : List Int} (cv : CV C) (hmb : C.mb ≤ 4000) (hi : RgI C σ J) : (stbS C bs σ J).2.1.safe ≤ J.safe := by
  unfold stbS
  rw [if_neg (by rw [hi.dn]; decide)]
  split
  · rename_i h0
    have hR := (dec_x h0).rq
    unfold stgS
    simp only
    have h1 : RgI C { σ with sr := w1 σ.sr } J := hi.same ⟨rfl, rfl, rfl, rfl⟩ rfl rfl rfl
    rw [if_neg (by rw [hi.dn]; decide)]
    by_cases c0 : xpr (dec bs).1 = false
    · rw [if_pos c0]; exact Nat.le_refl _
    · rw [if_neg c0]
      have hN := xprN hR (by simpa using c0)
      by_cases c1 : valid C σ.now (dec bs).1 = 0
      · rw [if_pos c1]
        by_cases c2 : isQ (dec bs).1.op = true
        · rw [if_pos c2]; exact Nat.le_refl _
        · rw [if_neg c2]; exact safe_chg cv hmb h1 hN
      · rw [if_neg c1]; exact Nat.le_refl _
  · exact Nat.le_refl _
/-- the log stays shorter than the policy says -/
theorem tail_hnd {bs : List Int} (cv : CV C) (hmb : C.mb ≤ 4000) (hb : 0 ≤ b) (hi : RgI C σ J) (hl : Jlm a b c J) (hfit : ∀ s, SGd C s → (((encImg (img C s)).length : Nat) : Int) ≤ c) (h0 : 0 < C.se) (ht : ((J.log.length : Nat) : Int) < C.se) (hB : By bs) (hs : σ.seq + 1 ≤ 9223372036854775807) :
    (((hndS C bs σ J).2.1.log.length : Nat) : Int) < C.se := by
  have i1 := hi.stb cv hmb hB hs
  have l1 := hl.stb (bs := bs) cv hmb hb hi
  have s1 := safe_stb (bs := bs) cv hmb hi
  have hsf := hi.sf
  unfold hndS
  show (((setS C (stbS C bs σ J).1 (stbS C bs σ J).2.1).2.1.log.length : Nat) : Int) < C.se
  generalize stbS C bs σ J = r at i1 l1 s1 ⊢
  unfold setS
  rw [if_neg (by rw [i1.dn]; decide)]
  have tl := i1.tl
  have lo := i1.lo
  have sf := i1.sf
  by_cases c0 : r.1.loose = 0
  · rw [if_pos c0]
    show ((r.2.1.log.length : Nat) : Int) < C.se
    omega
  · rw [if_neg c0, comJ0 i1.off i1.lf, if_pos rfl]
    have h1 : RgI C { r.1 with loose := 0 } { r.2.1 with safe := r.2.1.log.length } := by
      obtain ⟨σ1, r1, r2⟩ := i1.rp
      refine ⟨i1.g, i1.dn, i1.off, i1.lf, i1.tl, Nat.le_refl _, ?_, ⟨i1.jb.s, i1.jb.l, i1.jb.n⟩, ⟨σ1, r1, ⟨r2.now, r2.rs, r2.ls, r2.seq⟩⟩⟩
      show (0 : Int) = ((r.2.1.log.length - r.2.1.log.length : Nat) : Int)
      simp
    unfold aftS
    split
    · rename_i q
      have q' : r.1.tail < C.se := q
      show ((r.2.1.log.length : Nat) : Int) < C.se
      omega
    · rcases snapS0 h1 with ⟨q, hq⟩ | q
      · exfalso
        have h2 := hfit { r.1 with loose := 0 } h1.g
        have h3 : ({ r.2.1 with safe := r.2.1.log.length } : Jr).ms = c := l1.ms
        rw [h3] at hq
        omega
      · rw [q]
        show ((([] : List (List Int)).length : Nat) : Int) < C.se
        simpa using h0
/-- the log of the park's journal stays shorter than six -/
theorem park_tail {bs : List Int} (hi : RgI park σ J) (hl : Jlm 48 72 1200 J) (ht : J.log.length < 6) (hB : By bs) (hs : σ.seq + 1 ≤ 9223372036854775807) : (hndS park bs σ J).2.1.log.length < 6 := by
  have := tail_hnd (C := park) (a := 48) (b := 72) (c := 1200) park_cv park_mb (by decide) hi hl (fun s g => by have := snap_fits g; omega) (by decide) (by show ((J.log.length : Nat) : Int) < 6; omega) hB hs
  have e : park.se = 6 := rfl
  omega
/-! ### an engine opened on the journal of a run -/
theorem rplS_o {x : List Int} (h : rplS C x σ = some σ') : σ'.down = σ.down ∧ σ'.loose = σ.loose ∧ σ'.res = σ.res ∧ σ'.sp = w1 σ.sp := by
  unfold rplS at h
  split at h
  · rename_i q
    rw [← Option.some.inj h]
    have ho := apS_o C (par x).2.1 σ
    have hk := apS_keep C (par x).2.1 σ
    exact ⟨ho.1, hk.2.2.2, ho.2.2.1, by show w1 _ = _; rw [ho.2.2.2]⟩
  · cases h
theorem rplL_o : ∀ {l : List (List Int)} {σ σ' : Sg}, rplL C l σ = some σ' → 0 ≤ σ.sp → σ.sp + (l.length : Nat) ≤ 1000000 → σ'.down = σ.down ∧ σ'.loose = σ.loose ∧ σ'.res = σ.res ∧ σ'.sp = σ.sp + (l.length : Nat)
  | [], σ, σ', h, h0, hl => by
    have e := Option.some.inj (show some σ = some σ' from h)
    rw [← e]
    exact ⟨rfl, rfl, rfl, by simp⟩
  | x :: l, σ, σ', h, h0, hl => by
    rw [rplL] at h
    cases hx : rplS C x σ with
    | none => rw [hx] at h; cases h
    | some σ1 =>
      rw [hx] at h
      obtain ⟨a1, a2, a3, a4⟩ := rplS_o hx
      rw [List.length_cons] at hl
      have e4 : σ1.sp = σ.sp + 1 := by rw [a4]; unfold w1; rw [wrap64_id (by omega) (by omega)]
      obtain ⟨b1, b2, b3, b4⟩ := rplL_o (l := l) h (by omega) (by omega)
      refine ⟨b1.trans a1, b2.trans a2, b3.trans a3, ?_⟩
      rw [b4, e4, List.length_cons]
      omega
/-- the second engine -/
theorem opn_live (hi : RgI park σ J) (hlo : σ.loose = 0) (ht : J.log.length < 6) : ∃ σ2, opnS park J = (J, some σ2, 0) ∧ Core σ σ2 ∧ RgI park σ2 J ∧ σ2.loose = 0 ∧ σ2.sp = ((J.log.length : Nat) : Int) ∧ σ2.res = J.has := by
  obtain ⟨σ1, r1, r2⟩ := hi.rp
  have h0 : ∃ σ0, opn0 park J = some σ0 ∧ rplL park J.log σ0 = some σ1 := by
    unfold opn1 at r1
    cases h : opn0 park J with
    | none => rw [h] at r1; cases r1
    | some σ0 => rw [h] at r1; exact ⟨σ0, rfl, r1⟩
  obtain ⟨σ0, z0, z1⟩ := h0
  have h00 : σ0.down = false ∧ σ0.loose = 0 ∧ σ0.res = J.has ∧ σ0.sp = 0 := by
    unfold opn0 at z0
    cases hh : J.has with
    | true =>
      rw [hh, if_pos rfl] at z0
      split at z0
      · rw [← Option.some.inj z0]; exact ⟨rfl, rfl, rfl, rfl⟩
      · cases z0
    | false =>
      rw [hh, if_neg (by decide)] at z0
      rw [← Option.some.inj z0]; exact ⟨rfl, rfl, rfl, rfl⟩
  obtain ⟨a1, a2, a3, a4⟩ := h00
  obtain ⟨b1, b2, b3, b4⟩ := rplL_o z1 (by omega) (by omega)
  have es : park.se = 6 := rfl
  refine ⟨{ σ1 with tail := (J.log.length : Nat) }, ?_, ⟨r2.now, r2.rs, r2.ls, r2.seq⟩, ⟨?_, by show σ1.down = false; rw [b1, a1], hi.off, hi.lf, rfl, hi.sf, ?_, hi.jb, ⟨σ1, r1, ⟨rfl, rfl, rfl, rfl⟩⟩⟩, by show σ1.loose = 0; rw [b2, a2], by show σ1.sp = _; rw [b4, a4]; omega, by show σ1.res = _; rw [b3, a3]⟩
  · unfold opnS
    rw [if_neg (by rw [hi.off]; decide), if_neg (by rw [hi.lf]; decide), r1]
    simp only [due0 hi.lf]
    have ea : aftS park { σ1 with tail := (J.log.length : Nat) } J = ({ σ1 with tail := (J.log.length : Nat) }, J, 0) := by
      unfold aftS
      rw [if_pos (show ((J.log.length : Nat) : Int) < park.se by rw [es]; omega)]
    rw [ea, if_pos rfl]
  · exact r2.gd hi.g
  · show σ1.loose = _
    rw [b2, a2, ← hi.lo, hlo]
end
end Go.Proofs.Qxb6500896aGreat
