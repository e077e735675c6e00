import Derived.Test.Qxb6500896aGreatN2
namespace Go.Proofs.Qxb6500896aGreat
open Go.Sh Go.RowKit
set_option linter.unusedVariables false
set_option linter.unusedSimpArgs false

/-- a booking, by its status -/
def Bk (C : Cfg) (now st ex s0 : Int) (n : Nat) : Prop :=
  (1 ≤ n ∧ ((n : Nat) : Int) ≤ C.ml) ∧ (C.ht ≤ ex ∧ ex - C.ht ≤ now) ∧ ((st = 1 ∧ now < ex) ∨ (st = 6 ∧ ex ≤ now) ∨ (st = 2 ∧ now < s0 + C.gr) ∨ (st = 5 ∧ s0 + C.gr ≤ now) ∨ (st = 3 ∧ s0 ≤ now) ∨ st = 4)
/-- a party that waits or waited -/
def Sd (C : Cfg) (now st ex ln a0 s0 : Int) (n : Nat) : Prop :=
  (ln ≤ ((C.ats.length : Nat) : Int) ∧ ex = 0) ∧ ((n = 0 ∧ (st = 7 ∨ st = 4)) ∨ (n = 1 ∧ a0 = ln - 1 ∧ ((st = 8 ∧ now < s0 + C.rt) ∨ (st = 9 ∧ s0 + C.rt ≤ now) ∨ (st = 3 ∧ s0 ≤ now) ∨ st = 4)))
/-- a record's shape -/
def Sh (C : Cfg) (now st ex ln a0 s0 : Int) (n : Nat) : Prop := (ln = 0 ∧ Bk C now st ex s0 n) ∨ (ln ≠ 0 ∧ Sd C now st ex ln a0 s0 n)
section
variable {C : Cfg} {now st ex ln a0 s0 a1 s1 : Int} {n n1 : Nat}
theorem sh_confirm (h : Sh C now st ex ln a0 s0 n) (h1 : st = 1) (h2 : ¬ s0 + C.gr ≤ now) : Sh C now 2 ex ln a0 s0 n := by
  unfold Sh Bk Sd at *; omega
theorem sh_cancel (h : Sh C now st ex ln a0 s0 n) (h1 : st = 1 ∨ st = 2 ∨ st = 8) : Sh C now 4 ex ln a0 s0 n := by
  unfold Sh Bk Sd at *; omega
theorem sh_arrive (h : Sh C now st ex ln a0 s0 n) (h1 : st = 2 ∨ st = 8) (h2 : ¬ now < s0) : Sh C now 3 ex ln a0 s0 n := by
  unfold Sh Bk Sd at *; omega
theorem sh_rebook (h : Sh C now st ex ln a0 s0 n) (h1 : st = 1 ∨ st = 2) (l0 : 1 ≤ n1) (l1 : ((n1 : Nat) : Int) ≤ C.ml) (hs : now ≤ s1) (gr : 1 ≤ C.gr) : Sh C now st ex ln a1 s1 n1 := by
  unfold Sh Bk Sd at *; omega
theorem sh_leave (h : Sh C now st ex ln a0 s0 n) (h1 : st = 7) : Sh C now 4 ex ln a0 s0 n := by
  unfold Sh Bk Sd at *; omega
theorem sh_issue (h : Sh C now st ex ln a0 s0 n) (h1 : st = 7) (hs : now < s1 + C.rt) : Sh C now 8 ex ln (ln - 1) s1 1 := by
  unfold Sh Bk Sd at *; omega
theorem sh_E (h : Sh C now st ex ln a0 s0 n) (h1 : st = 1 ∧ ex ≤ now + 1) : Sh C (now + 1) 6 ex ln a0 s0 n := by
  unfold Sh Bk Sd at *; omega
theorem sh_S (h : Sh C now st ex ln a0 s0 n) (h1 : st = 2 ∧ s0 + C.gr ≤ now + 1) : Sh C (now + 1) 5 ex ln a0 s0 n := by
  unfold Sh Bk Sd at *; omega
theorem sh_L (h : Sh C now st ex ln a0 s0 n) (h1 : st = 8 ∧ s0 + C.rt ≤ now + 1) : Sh C (now + 1) 9 ex ln a0 s0 n := by
  unfold Sh Bk Sd at *; omega
theorem sh_no (h : Sh C now st ex ln a0 s0 n) (h1 : ¬ (st = 1 ∧ ex ≤ now + 1)) (h2 : ¬ (st = 2 ∧ s0 + C.gr ≤ now + 1)) (h3 : ¬ (st = 8 ∧ s0 + C.rt ≤ now + 1)) : Sh C (now + 1) st ex ln a0 s0 n := by
  rcases h with ⟨h0, h4, h5, h6⟩ | ⟨h0, h4, h5⟩
  · refine .inl ⟨h0, h4, ⟨h5.1, by omega⟩, ?_⟩
    rcases h6 with q | q | q | q | q | q
    · exact .inl ⟨q.1, by omega⟩
    · exact .inr (.inl ⟨q.1, by omega⟩)
    · exact .inr (.inr (.inl ⟨q.1, by omega⟩))
    · exact .inr (.inr (.inr (.inl ⟨q.1, by omega⟩)))
    · exact .inr (.inr (.inr (.inr (.inl ⟨q.1, by omega⟩))))
    · exact .inr (.inr (.inr (.inr (.inr q))))
  · refine .inr ⟨h0, h4, ?_⟩
    rcases h5 with q | ⟨q1, q2, q⟩
    · exact .inl q
    · refine .inr ⟨q1, q2, ?_⟩
      rcases q with q | q | q | q
      · exact .inl ⟨q.1, by omega⟩
      · exact .inr (.inl ⟨q.1, by omega⟩)
      · exact .inr (.inr (.inl ⟨q.1, by omega⟩))
      · exact .inr (.inr (.inr q))
theorem sh_live (h : Sh C now st ex ln a0 s0 n) (h1 : st = 1 ∨ st = 2 ∨ st = 3 ∨ st = 8) : 1 ≤ n := by
  unfold Sh Bk Sd at *; omega
theorem sh_wait (h : Sh C now st ex ln a0 s0 n) (h1 : st = 7) (h0 : 0 ≤ ln) : 1 ≤ ln ∧ ln ≤ ((C.ats.length : Nat) : Int) := by
  unfold Sh Bk Sd at *; omega
end
structure RecP (C : Cfg) (now : Int) (r : Rec) : Prop where
  cl : r.cl < 3
  s0 : 1 ≤ r.sz
  s1 : r.sz ≤ C.mp
  lg : ∀ l ∈ r.legs, l.a < ((C.ats.length : Nat) : Int) ∧ l.s - now < C.hz
  sh : Sh C now r.st r.ex r.ln (fst0 r).a (fst0 r).s r.legs.length
theorem chkBook_iff {C : Cfg} {now : Int} {r : Rec} : chkBook C now r = true ↔ Bk C now r.st r.ex (fst0 r).s r.legs.length := by
  unfold chkBook Bk
  simp only [Bool.and_eq_true, decide_eq_true_eq]
  rw [and_assoc]
  refine and_congr_right fun _ => and_congr_right fun _ => ?_
  repeat' split
  all_goals simp only [decide_eq_true_eq]
  all_goals omega
theorem chkStand_iff {C : Cfg} {now : Int} {r : Rec} : chkStand C now r = true ↔ Sd C now r.st r.ex r.ln (fst0 r).a (fst0 r).s r.legs.length := by
  unfold chkStand Sd
  simp only [Bool.and_eq_true, decide_eq_true_eq]
  refine and_congr_right fun _ => ?_
  repeat' split
  all_goals simp only [Bool.and_eq_true, decide_eq_true_eq]
  all_goals omega
theorem chkRec_iff {C : Cfg} {now : Int} {r : Rec} : chkRec C now r = true ↔ RecP C now r := by
  unfold chkRec
  simp only [Bool.and_eq_true, decide_eq_true_eq, List.all_eq_true]
  constructor
  · rintro ⟨⟨⟨⟨a, b⟩, c⟩, d⟩, e⟩
    refine ⟨a, b, c, fun l hl => ?_, ?_⟩
    · have := d l hl
      unfold chkLeg at this
      simpa using this
    · split at e
      · rename_i q; exact .inl ⟨q, chkBook_iff.1 e⟩
      · rename_i q; exact .inr ⟨q, chkStand_iff.1 e⟩
  · rintro ⟨a, b, c, d, e⟩
    refine ⟨⟨⟨⟨a, b⟩, c⟩, fun l hl => ?_⟩, ?_⟩
    · have := d l hl
      unfold chkLeg
      simpa using this
    · rcases e with ⟨q, e⟩ | ⟨q, e⟩
      · rw [if_pos q]; exact chkBook_iff.2 e
      · rw [if_neg q]; exact chkStand_iff.2 e
theorem chkRs_iff {C : Cfg} {now : Int} : ∀ {rs : List Rec} {k : Nat}, chkRs C now k rs = true ↔ ∀ i (h : i < rs.length), rs[i].id = ((k + i + 1 : Nat) : Int) ∧ chkRec C now rs[i] = true
  | [], k => by simp [chkRs]
  | r :: rs, k => by
    rw [chkRs]
    simp only [Bool.and_eq_true, decide_eq_true_eq, chkRs_iff (rs := rs) (k := k + 1)]
    constructor
    · rintro ⟨h1, h2⟩ j hj
      cases j with
      | zero => exact h1
      | succ j =>
        have := h2 j (by simpa using hj)
        rw [show k + (j + 1) + 1 = k + 1 + j + 1 by omega]
        exact this
    · intro h
      refine ⟨h 0 (by simp), fun j hj => ?_⟩
      have := h (j + 1) (by simpa using hj)
      rw [show k + (j + 1) + 1 = k + 1 + j + 1 by omega] at this
      exact this
/-- a state as every request leaves it -/
structure Gd (C : Cfg) (q n : Int) (rs : List Rec) (ls : List (List Int)) : Prop where
  now : 0 ≤ n ∧ n ≤ C.mc
  len : ((rs.length : Nat) : Int) ≤ C.mb
  seq : n + ((rs.length : Nat) : Int) ≤ q
  sq : q ≤ 9223372036854775807
  ids : Ids rs
  rn : ∀ r ∈ rs, RN r
  rc : ∀ r ∈ rs, RecP C n r
  li : Ls C rs ls
  ld : Ld C rs
section
variable {C : Cfg} {seq now : Int} {rs : List Rec} {ls : List (List Int)}
theorem Gd.of (cv : CV C) {im : Img} (h : chkImg C im = true) (hn : ImN im) : Gd C im.seq im.now im.rs im.ls := by
  unfold chkImg at h
  simp only [Bool.and_eq_true, decide_eq_true_eq] at h
  obtain ⟨⟨⟨⟨h1, h2, h3⟩, h4⟩, h5⟩, h6, h7⟩ := h
  have h5' := chkRs_iff.1 h5
  have hid : Ids im.rs := fun i hi => by have := (h5' i hi).1; rw [Nat.zero_add] at this; exact this
  refine ⟨⟨hn.now.1, h2⟩, h3, h4, hn.seq.2, hid, hn.rs, fun r hr => ?_, Ls.of hid h6, Ld.of cv h7⟩
  obtain ⟨i, hi, rfl⟩ := List.mem_iff_getElem.1 hr
  exact chkRec_iff.1 (h5' i hi).2
theorem Gd.pos (h : Gd C seq now rs ls) : Pos rs := fun r hr => by
  obtain ⟨i, hi, rfl⟩ := List.mem_iff_getElem.1 hr
  refine ⟨by rw [h.ids i hi]; omega, (h.rn _ hr).sz.1⟩
theorem Gd.rl (cv : CV C) (h : Gd C seq now rs ls) : ∀ r ∈ rs, RL C r := fun r hr => rl_of cv h.now (h.rn r hr) (chkRec_iff.2 (h.rc r hr))
theorem Gd.imn (cv : CV C) (h : Gd C seq now rs ls) (rules : Int) : ImN ⟨rules, seq, now, rs, ls⟩ := by
  have := h.now
  have := cv.mc.2
  have := h.seq
  have := h.sq
  have := h.len
  have := cv.mb.2
  refine ⟨⟨by show 0 ≤ seq; omega, h.sq⟩, ⟨by show 0 ≤ now; omega, by show now ≤ _; omega⟩, h.rn, fun l hl x hx => ?_, ?_⟩
  · obtain ⟨k, hk, rfl⟩ := List.mem_iff_getElem.1 hl
    have := (h.li.at_ k hk x hx).1
    unfold has at this
    exact ⟨by omega, by omega⟩
  · show lens ls ≤ _
    rw [← h.li.wt h.ids]
    have : waits rs ≤ rs.length := List.countP_le_length
    omega
theorem Gd.chk (cv : CV C) (h : Gd C seq now rs ls) : chkImg C ⟨fp C, seq, now, rs, ls⟩ = true := by
  unfold chkImg
  simp only [Bool.and_eq_true, decide_eq_true_eq]
  refine ⟨⟨⟨⟨trivial, h.now.2, h.len⟩, h.seq⟩, chkRs_iff.2 fun i hi => ⟨by rw [Nat.zero_add]; exact h.ids i hi, chkRec_iff.2 (h.rc _ (List.getElem_mem hi))⟩⟩, h.li.chk h.ids, h.ld.chk (h.rl cv)⟩
theorem live_st {st : Int} (h : live st = true) : st = 1 ∨ st = 2 ∨ st = 3 ∨ st = 8 := by
  unfold live at h
  simp only [Bool.or_eq_true, beq_iff_eq] at h
  omega
theorem live_no {st : Int} (h1 : st ≠ 1) (h2 : st ≠ 2) (h3 : st ≠ 3) (h8 : st ≠ 8) : live st = false := by
  cases h : live st with
  | false => rfl
  | true => rcases live_st h with q | q | q | q <;> contradiction
theorem Gd.ti (cv : CV C) (h : Gd C seq now rs ls) : TI C rs := by
  refine ⟨h.rl cv, fun r hr hl => ?_⟩
  exact sh_live (h.rc r hr).sh (live_st hl)
theorem Gd.tw (h : Gd C seq now rs ls) : TW C rs := fun r hr h7 => by
  exact sh_wait (h.rc r hr).sh h7 (h.rn r hr).ln.1
theorem Gd.ts (cv : CV C) (h : Gd C seq now rs ls) : TS C rs ls := ⟨h.ti cv, h.tw, (h.imn cv 0).ids⟩
theorem Gd.up {seq' : Int} (h : Gd C seq now rs ls) (h1 : seq ≤ seq') (h2 : seq' ≤ 9223372036854775807) : Gd C seq' now rs ls :=
  ⟨h.now, h.len, by have := h.seq; omega, h2, h.ids, h.rn, h.rc, h.li, h.ld⟩
/-- the empty state -/
theorem Gd.zero (cv : CV C) : Gd C 0 0 [] (List.replicate C.ats.length []) := by
  refine ⟨⟨by omega, cv.mc.1⟩, by have := cv.mb; simp; omega, by simp, by decide, (fun i hi => by simp at hi), (fun r hr => by cases hr), (fun r hr => by cases hr), ⟨by simp, fun l hl => ?_, fun l hl => ?_, fun k hk id hid => ?_, fun id hh => ?_⟩, ⟨fun a x h0 h1 => ?_, fun a s c h0 h1 _ _ => ?_, (fun r hr => by cases hr)⟩⟩
  · rw [List.eq_of_mem_replicate hl]; have := cv.mx; simp; omega
  · rw [List.eq_of_mem_replicate hl]; simp
  · simp at hid
  · have := hh.1; have := hh.2; simp at this; omega
  · have := (att_b cv h0 h1).1
    show (0 : Int) ≤ _
    omega
  · have := (att_b cv h0 h1).2.2 c
    exact this
/-- a record takes another status -/
theorem Gd.stat {id s : Int} (h : Gd C seq now rs ls) (hh : has rs id) (hs : live s = true → live (rget rs id).st = true) (h7 : (rget rs id).st ≠ 7) (hs7 : s ≠ 7) (hsn : N63 s) (hp : RecP C now { rget rs id with st := s }) : Gd C seq now (rset rs id { rget rs id with st := s }) ls := by
  have hli : Ls C (rset rs id { rget rs id with st := s }) ls := h.li.put hh h7 hs7
  obtain ⟨i, hi, hlt⟩ := has_at hh
  rw [rset_at hi] at hli ⊢
  rw [rget_at hi hlt] at *
  have rn := h.rn _ (List.getElem_mem hlt)
  refine ⟨h.now, by rw [List.length_set]; exact h.len, by rw [List.length_set]; exact h.seq, h.sq, h.ids.set hlt rfl, fun r hr => ?_, fun r hr => ?_, hli, h.ld.stat hlt h.pos hs⟩
  · rcases List.mem_or_eq_of_mem_set hr with q | q
    · exact h.rn r q
    · rw [q]; exact ⟨rn.id, hsn, rn.cl, rn.sz, rn.ln, rn.ex, rn.lg, rn.ll⟩
  · rcases List.mem_or_eq_of_mem_set hr with q | q
    · exact h.rc r q
    · rw [q]; exact hp
theorem n63s {s : Int} (h : 0 ≤ s ∧ s ≤ 255) : N63 s := ⟨h.1, by omega⟩
theorem Gd.confirm {id : Int} (h : Gd C seq now rs ls) : Gd C seq now (tConfirm C now id rs).1 ls := by
  unfold tConfirm
  split
  · rename_i hh
    split
    · rename_i h1
      split
      · exact h
      · rename_i h2
        have p := h.rc _ (h.ids.rget hh).1
        refine h.stat hh (fun _ => by rw [h1]; rfl) (by omega) (by decide) (n63s (by decide)) ⟨p.cl, p.s0, p.s1, p.lg, ?_⟩
        exact sh_confirm p.sh h1 h2
    · exact h
  · exact h
theorem Gd.cancel {id : Int} (h : Gd C seq now rs ls) : Gd C seq now (tCancel id rs).1 ls := by
  unfold tCancel
  split
  · rename_i hh
    split
    · rename_i h1
      have p := h.rc _ (h.ids.rget hh).1
      refine h.stat hh (fun q => absurd q (by decide)) (by omega) (by decide) (n63s (by decide)) ⟨p.cl, p.s0, p.s1, p.lg, ?_⟩
      exact sh_cancel p.sh h1
    · exact h
  · exact h
theorem Gd.arrive {id st : Int} (hst : st = 2 ∨ st = 8) (h : Gd C seq now rs ls) : Gd C seq now (tArrive now id st rs).1 ls := by
  unfold tArrive
  split
  · rename_i hh
    split
    · rename_i h1
      split
      · exact h
      · rename_i h2
        have p := h.rc _ (h.ids.rget hh).1
        refine h.stat hh (fun _ => by rw [h1]; rcases hst with rfl | rfl <;> rfl) (by omega) (by decide) (n63s (by decide)) ⟨p.cl, p.s0, p.s1, p.lg, ?_⟩
        exact sh_arrive p.sh (by rw [h1]; exact hst) h2
    · exact h
  · exact h
/-- legs as a valid request names them -/
structure LO2 (C : Cfg) (now : Int) (ls : List Leg) : Prop where
  l0 : 1 ≤ ls.length
  l1 : ((ls.length : Nat) : Int) ≤ C.ml
  lv : ∀ l ∈ ls, (0 ≤ l.a ∧ l.a < ((C.ats.length : Nat) : Int)) ∧ now ≤ l.s ∧ l.s - now < C.hz
theorem LO2.rn {ls : List Leg} (cv : CV C) (hn : 0 ≤ now ∧ now ≤ C.mc) (h : LO2 C now ls) : (∀ l ∈ ls, N63 l.a ∧ N63 l.s) ∧ ls.length ≤ 8 := by
  have := cv.ml.2
  have := h.l1
  have := cv.hz.2
  have := cv.mc.2
  have := cv.al.2
  refine ⟨fun l hl => ?_, by omega⟩
  have := h.lv l hl
  exact ⟨⟨by omega, by omega⟩, ⟨by omega, by omega⟩⟩
theorem LO2.lo {ls : List Leg} (cv : CV C) (hn : 0 ≤ now ∧ now ≤ C.mc) (h : LO2 C now ls) : LO C now ls := by
  have := cv.hz.2
  have := cv.mc.2
  refine ⟨(h.rn cv hn).2, fun l hl => ?_, fun l hl => ?_⟩
  · have := h.lv l hl
    exact ⟨this.1, by omega, by omega⟩
  · have := h.lv l hl
    omega
theorem fst0_of {r : Rec} (h : 1 ≤ r.legs.length) {P : Leg → Prop} (hp : ∀ l ∈ r.legs, P l) : P (fst0 r) := hp _ (fst0_mem h)
theorem Gd.hold {cls sz : Int} {lg : List Leg} (cv : CV C) (h : Gd C seq now rs ls) (hc : 0 ≤ cls ∧ cls < 3) (hs : 1 ≤ sz ∧ sz ≤ C.mp) (hl : LO2 C now lg) (hq : seq + 1 ≤ 9223372036854775807) (h0 : (tHold C now cls sz lg rs).2 = 0) : Gd C (seq + 1) now (tHold C now cls sz lg rs).1 ls := by
  unfold tHold at h0 ⊢
  split
  · rename_i hk
    unfold tCheck at hk
    split at hk
    · omega
    · rename_i hmb
      have hn := h.now
      have := cv.mp.2
      have := cv.ht
      have := cv.mc.2
      have := cv.mb.2
      have := h.seq
      obtain ⟨n1, n2⟩ := hl.rn cv h.now
      unfold tGrant
      refine ⟨h.now, by simp; omega, by simp; omega, hq, h.ids.app rfl, fun r hr => ?_, fun r hr => ?_, h.li.add (by simp), h.ld.add rfl (by simp; omega) hk⟩
      · rcases List.mem_append.1 hr with q | q
        · exact h.rn r q
        · rw [List.mem_singleton.1 q]
          exact ⟨⟨by simp only; omega, by simp only; omega⟩, (show N63 1 from n63s (by decide)), ⟨hc.1, by simp only; omega⟩, ⟨by simp only; omega, by simp only; omega⟩, (show N63 0 from n63s (by decide)), ⟨by simp only; omega, by simp only; omega⟩, n1, n2⟩
      · rcases List.mem_append.1 hr with q | q
        · exact h.rc r q
        · rw [List.mem_singleton.1 q]
          refine ⟨hc.2, hs.1, hs.2, fun l hl2 => ⟨(hl.lv l hl2).1.2, (hl.lv l hl2).2.2⟩, .inl ⟨rfl, ⟨hl.l0, hl.l1⟩, ⟨by simp only; omega, by simp only; omega⟩, .inl ⟨rfl, by simp only; omega⟩⟩⟩
  · rename_i hk; rw [if_neg hk] at h0; exact absurd h0 hk
theorem Gd.rebook {id : Int} {lg : List Leg} (cv : CV C) (h : Gd C seq now rs ls) (hl : LO2 C now lg) : Gd C seq now (tRebook C id lg rs).1 ls := by
  unfold tRebook
  split
  · rename_i hh
    split
    · rename_i h1
      split
      · rename_i hf
        have hli : Ls C (rset rs id { rget rs id with legs := lg }) ls := h.li.put hh (by omega) (by show (rget rs id).st ≠ 7; omega)
        have hp := h.rc _ (h.ids.rget hh).1
        have gr := cv.gr
        obtain ⟨n1, n2⟩ := hl.rn cv h.now
        obtain ⟨i, hi, hlt⟩ := has_at hh
        rw [rset_at hi] at hli ⊢
        rw [rget_at hi hlt] at *
        have rn := h.rn _ (List.getElem_mem hlt)
        have e0 := h.ids i hlt
        refine ⟨h.now, by rw [List.length_set]; exact h.len, by rw [List.length_set]; exact h.seq, h.sq, h.ids.set hlt rfl, fun r hr => ?_, fun r hr => ?_, hli, ?_⟩
        · rcases List.mem_or_eq_of_mem_set hr with q | q
          · exact h.rn r q
          · rw [q]; exact ⟨rn.id, rn.st, rn.cl, rn.sz, rn.ln, rn.ex, n1, n2⟩
        · rcases List.mem_or_eq_of_mem_set hr with q | q
          · exact h.rc r q
          · rw [q]
            refine ⟨hp.cl, hp.s0, hp.s1, fun l hl2 => ⟨(hl.lv l hl2).1.2, (hl.lv l hl2).2.2⟩, ?_⟩
            have f1 := (fst0_of (r := { rs[i] with legs := lg }) hl.l0 (P := fun l => (0 ≤ l.a ∧ l.a < ((C.ats.length : Nat) : Int)) ∧ now ≤ l.s ∧ l.s - now < C.hz) hl.lv).2
            exact sh_rebook hp.sh h1 hl.l0 hl.l1 f1.1 gr.1
        · refine h.ld.put hlt h.pos (.inr (by rw [e0, hi])) (fun j hj q => by rw [h.ids j hj]; omega) (by show 1 ≤ rs[i].id; omega) ?_ hf
          show live rs[i].st = true
          rcases h1 with q | q <;> rw [q] <;> rfl
      · exact h
    · exact h
  · exact h
theorem Gd.leave {id : Int} (h : Gd C seq now rs ls) : Gd C seq now (tLeave id rs ls).1 (tLeave id rs ls).2.1 := by
  unfold tLeave
  split
  · rename_i h0
    unfold tWithdraw at h0 ⊢
    split
    · rename_i hh
      split
      · rename_i h7
        have hli : Ls C (rset rs id { rget rs id with st := 4 }) (tRemove id ls) := h.li.gone hh (show (4 : Int) ≠ 7 by decide)
        have hp := h.rc _ (h.ids.rget hh).1
        obtain ⟨i, hi, hlt⟩ := has_at hh
        rw [rset_at hi] at hli ⊢
        rw [rget_at hi hlt] at *
        have rn := h.rn _ (List.getElem_mem hlt)
        refine ⟨h.now, by rw [List.length_set]; exact h.len, by rw [List.length_set]; exact h.seq, h.sq, h.ids.set hlt rfl, fun r hr => ?_, fun r hr => ?_, hli, h.ld.stat hlt h.pos (fun q => absurd q (by decide))⟩
        · rcases List.mem_or_eq_of_mem_set hr with q | q
          · exact h.rn r q
          · rw [q]; exact ⟨rn.id, (show N63 4 from n63s (by decide)), rn.cl, rn.sz, rn.ln, rn.ex, rn.lg, rn.ll⟩
        · rcases List.mem_or_eq_of_mem_set hr with q | q
          · exact h.rc r q
          · rw [q]
            refine ⟨hp.cl, hp.s0, hp.s1, hp.lg, ?_⟩
            exact sh_leave hp.sh h7
      · rename_i h7; rw [if_pos hh, if_neg h7] at h0; exact absurd h0 (show ¬ (8 : Int) = 0 by decide)
    · rename_i hh; rw [if_neg hh] at h0; exact absurd h0 (show ¬ (2 : Int) = 0 by decide)
  · exact h
theorem Gd.join {attr cls sz : Int} (cv : CV C) (h : Gd C seq now rs ls) (ha : 0 ≤ attr ∧ attr < ((C.ats.length : Nat) : Int)) (hc : 0 ≤ cls ∧ cls < 3) (hs : 1 ≤ sz ∧ sz ≤ C.mp) (hq : seq + 1 ≤ 9223372036854775807) : Gd C (seq + 1) now (tJoin C attr cls sz rs ls).rs (tJoin C attr cls sz rs ls).ls := by
  unfold tJoin
  split
  · exact h.up (by omega) hq
  · rename_i hmx
    split
    · rename_i h0
      unfold tEnroll at h0 ⊢
      split
      · rename_i hm; rw [if_pos hm] at h0; exact absurd h0 (show ¬ (9 : Int) = 0 by decide)
      · rename_i hmb
        obtain ⟨k, rfl⟩ : ∃ k : Nat, attr = k := ⟨attr.toNat, by omega⟩
        have hk : k < ls.length := by have := h.li.len; omega
        rw [lnOf_at hk] at *
        have hn := h.now
        have := cv.mp.2
        have := cv.mb.2
        have := cv.al.2
        have := h.seq
        unfold tGrant
        show Gd C (seq + 1) now (rs ++ [⟨((rs.length + 1 : Nat) : Int), 7, cls, sz, ((k : Nat) : Int) + 1, 0, []⟩]) (ls.set ((k : Nat) : Int).toNat (ls[k] ++ [((rs.length + 1 : Nat) : Int)]))
        rw [Int.toNat_natCast]
        refine ⟨h.now, by simp; omega, by simp; omega, hq, h.ids.app rfl, fun r hr => ?_, fun r hr => ?_, h.li.join hk (by omega) rfl rfl, h.ld.add0 rfl⟩
        · rcases List.mem_append.1 hr with q | q
          · exact h.rn r q
          · rw [List.mem_singleton.1 q]
            exact ⟨⟨by simp only; omega, by simp only; omega⟩, (show N63 7 from n63s (by decide)), ⟨hc.1, by simp only; omega⟩, ⟨by simp only; omega, by simp only; omega⟩, ⟨by simp only; omega, by simp only; omega⟩, (show N63 0 from n63s (by decide)), (fun l hl => by cases hl), by simp⟩
        · rcases List.mem_append.1 hr with q | q
          · exact h.rc r q
          · rw [List.mem_singleton.1 q]
            refine ⟨hc.2, hs.1, hs.2, (fun l hl => by cases hl), .inr ⟨by simp; omega, ⟨by simp; omega, rfl⟩, .inl ⟨rfl, .inl rfl⟩⟩⟩
    · exact h.up (by omega) hq
theorem offF_fits {C : Cfg} {rs : List Rec} {r : Rec} : ∀ {n : Nat} {s x : Int}, offF C rs r n s = some x → fits C rs r.cl r.sz [⟨r.ln - 1, x⟩] 0 = 0
  | 0, s, x, h => by cases h
  | n + 1, s, x, h => by
    rw [offF] at h
    split at h
    · rename_i q; cases h; exact q
    · exact offF_fits h
theorem Gd.issue {id slot : Int} (cv : CV C) (h : Gd C seq now rs ls) (ho : tOffer C rs id (now + 1) (now + C.of) = some slot) : Gd C seq now (tIssue id slot rs).1 (tRemove id ls) := by
  obtain ⟨hh, h7, s0, s1⟩ := tOffer_b ho
  have hf : fits C rs (rget rs id).cl (rget rs id).sz [⟨(rget rs id).ln - 1, slot⟩] 0 = 0 := by
    unfold tOffer at ho
    rw [if_pos ⟨hh, h7⟩] at ho
    exact offF_fits ho
  unfold tIssue
  rw [if_pos hh, if_pos h7]
  have hli : Ls C (rset rs id { rget rs id with st := 8, legs := [⟨(rget rs id).ln - 1, slot⟩] }) (tRemove id ls) := h.li.gone hh (show (8 : Int) ≠ 7 by decide)
  have hp := h.rc _ (h.ids.rget hh).1
  have hw := h.tw _ (h.ids.rget hh).1 h7
  have hof := cv.of
  have hzz := cv.hz
  have hmc := cv.mc
  have hrt := cv.rt
  have hnow := h.now
  obtain ⟨i, hi, hlt⟩ := has_at hh
  rw [rset_at hi] at hli ⊢
  rw [rget_at hi hlt] at *
  have rn := h.rn _ (List.getElem_mem hlt)
  have ln := rn.ln
  unfold N63 at ln
  have e0 := h.ids i hlt
  refine ⟨h.now, by rw [List.length_set]; exact h.len, by rw [List.length_set]; exact h.seq, h.sq, h.ids.set hlt rfl, fun r hr => ?_, fun r hr => ?_, hli, ?_⟩
  · rcases List.mem_or_eq_of_mem_set hr with q | q
    · exact h.rn r q
    · rw [q]
      refine ⟨rn.id, (show N63 8 from n63s (by decide)), rn.cl, rn.sz, rn.ln, rn.ex, fun l hl => ?_, by simp⟩
      rw [List.mem_singleton.1 hl]
      exact ⟨⟨by simp only; omega, by simp only; omega⟩, by simp only; omega, by simp only; omega⟩
  · rcases List.mem_or_eq_of_mem_set hr with q | q
    · exact h.rc r q
    · rw [q]
      refine ⟨hp.cl, hp.s0, hp.s1, fun l hl => ?_, ?_⟩
      · rw [List.mem_singleton.1 hl]
        exact ⟨by simp only; omega, by simp only; omega⟩
      · exact sh_issue hp.sh h7 (show now < slot + C.rt by omega)
  · refine h.ld.put hlt h.pos (skip := 0) (.inl (by rw [h7]; rfl)) (fun j hj q => by rw [h.ids j hj]; omega) (by show 1 ≤ rs[i].id; omega) rfl hf
theorem Gd.srvA {i : Nat} (cv : CV C) : ∀ {f : Nat} {s : SrvS}, Gd C seq now s.rs s.ls → Gd C seq now (srvA C now i f s).rs (srvA C now i f s).ls
  | 0, s, h => h
  | f + 1, s, h => by
    rw [Go.Proofs.Qxb6500896aGreat.srvA]
    split
    · exact h
    · rename_i p hp
      exact Gd.srvA cv (s := ⟨(tIssue p.1 p.2 s.rs).1, tRemove p.1 s.ls, s.iss ++ [⟨p.1, p.2⟩]⟩) (h.issue cv (firstOf_mem hp).2)
theorem Gd.srvL (cv : CV C) : ∀ {n i : Nat} {s : SrvS}, Gd C seq now s.rs s.ls → Gd C seq now (srvL C now n i s).rs (srvL C now n i s).ls
  | 0, i, s, h => h
  | n + 1, i, s, h => Gd.srvL cv (n := n) (i := i + 1) (h.srvA cv)
theorem Gd.serve (cv : CV C) (h : Gd C seq now rs ls) : Gd C seq now (tServe C now rs ls).rs (tServe C now rs ls).ls := Gd.srvL cv (s := ⟨rs, ls, []⟩) h
theorem recP_sw {r : Rec} (h : RecP C now r) : RecP C (now + 1) (swR C (now + 1) r) := by
  have hl : ∀ l ∈ r.legs, l.a < ((C.ats.length : Nat) : Int) ∧ l.s - (now + 1) < C.hz := fun l hl => by have := h.lg l hl; exact ⟨this.1, by omega⟩
  unfold swR isE isS isL
  simp only [Bool.and_eq_true, decide_eq_true_eq]
  split
  · rename_i q1; exact ⟨h.cl, h.s0, h.s1, hl, sh_E h.sh q1⟩
  · rename_i q1
    split
    · rename_i q2; exact ⟨h.cl, h.s0, h.s1, hl, sh_S h.sh q2⟩
    · rename_i q2
      split
      · rename_i q3; exact ⟨h.cl, h.s0, h.s1, hl, sh_L h.sh q3⟩
      · rename_i q3; exact ⟨h.cl, h.s0, h.s1, hl, sh_no h.sh q1 q2 q3⟩
theorem sw_st (C : Cfg) (now : Int) (r : Rec) : (swR C now r).st = r.st ∨ ((swR C now r).st ≠ 7 ∧ r.st ≠ 7 ∧ N63 (swR C now r).st) := by
  unfold swR isE isS isL
  simp only [Bool.and_eq_true, decide_eq_true_eq]
  split
  · exact .inr ⟨(show (6 : Int) ≠ 7 by decide), by omega, (show N63 6 from n63s (by decide))⟩
  · split
    · exact .inr ⟨(show (5 : Int) ≠ 7 by decide), by omega, (show N63 5 from n63s (by decide))⟩
    · split
      · exact .inr ⟨(show (9 : Int) ≠ 7 by decide), by omega, (show N63 9 from n63s (by decide))⟩
      · exact .inl rfl
theorem Gd.sweep (h : Gd C seq now rs ls) (hn : now < C.mc) (hq : seq + 1 ≤ 9223372036854775807) : Gd C (seq + 1) (now + 1) (tSweep C (now + 1) rs) ls := by
  have hnow := h.now
  have hseq := h.seq
  refine ⟨by omega, by unfold tSweep; rw [List.length_map]; exact h.len, by unfold tSweep; rw [List.length_map]; omega, hq, h.ids.map fun r => (swR_same C (now + 1) r).1, fun r hr => ?_, fun r hr => ?_, h.li.map (fun r => ?_) fun r => (swR_same C (now + 1) r).2.2.2.1, h.ld.sweep (now + 1) h.pos⟩
  · obtain ⟨r0, h0, rfl⟩ := List.mem_map.1 hr
    have rn := h.rn r0 h0
    obtain ⟨a, b, c, d, e, f, _⟩ := swR_same C (now + 1) r0
    refine ⟨by rw [a]; exact rn.id, ?_, by rw [b]; exact rn.cl, by rw [c]; exact rn.sz, by rw [d]; exact rn.ln, by rw [e]; exact rn.ex, by rw [f]; exact rn.lg, by rw [f]; exact rn.ll⟩
    rcases sw_st C (now + 1) r0 with q | q
    · rw [q]; exact rn.st
    · exact q.2.2
  · obtain ⟨r0, h0, rfl⟩ := List.mem_map.1 hr
    exact recP_sw (h.rc r0 h0)
  · rcases sw_st C (now + 1) r with q | ⟨q1, q2, _⟩
    · rw [q]
    · exact ⟨fun e => absurd e q1, fun e => absurd e q2⟩
end
end Go.Proofs.Qxb6500896aGreat
