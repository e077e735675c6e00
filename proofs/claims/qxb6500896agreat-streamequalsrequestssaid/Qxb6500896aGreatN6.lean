import Derived.Test.Qxb6500896aGreatK70
namespace Go.Proofs.Qxb6500896aGreat
open Go.Sh Go.RowKit
set_option linter.unusedVariables false
set_option linter.unusedSimpArgs false

theorem z63 : N63 0 := ⟨by decide, by decide⟩
theorem RpN.z : RpN rp0 := ⟨⟨by decide, by decide⟩, ⟨by decide, by decide⟩, z63, z63, z63, z63, z63, (fun x hx => by cases hx), by decide, z63, z63, z63, (fun x hx => by cases hx), by decide, z63, z63, z63, z63, z63, z63, (fun x hx => by cases hx), by decide, z63, z63, z63, (fun x hx => by
  have : x = 0 := by simpa [rp0] using hx
  rw [this]; exact z63), z63, z63, (fun h _ => by cases h)⟩
theorem RpN.rf {c : Int} (h : 0 ≤ c ∧ c ≤ 255) : RpN (Go.Proofs.Qxb6500896aGreat.rf c) := { RpN.z with code := h, one := fun h => by cases h }
/-- a code -/
def Cd (c : Int) : Prop := 0 ≤ c ∧ c ≤ 22
theorem Cd.b {c : Int} (h : Cd c) : 0 ≤ c ∧ c ≤ 255 := ⟨h.1, by have := h.2; omega⟩
section
variable {C : Cfg} {now id st cls sz attr skip : Int} {rs : List Rec} {ls : List (List Int)} {lg : List Leg} {q : Rq} {σ : Sg} {J : Jr}
theorem fits_c : Cd (fits C rs cls sz lg skip) := by
  unfold fits Cd; repeat' split
  all_goals simp
theorem tConfirm_c : Cd (tConfirm C now id rs).2 := by
  unfold tConfirm Cd; repeat' split
  all_goals simp
theorem tCancel_c : Cd (tCancel id rs).2 := by
  unfold tCancel Cd; repeat' split
  all_goals simp
theorem tArrive_c : Cd (tArrive now id st rs).2 := by
  unfold tArrive Cd; repeat' split
  all_goals simp
theorem tRebook_c : Cd (tRebook C id lg rs).2 := by
  unfold tRebook
  repeat' split
  all_goals first | exact fits_c | exact ⟨by simp, by simp⟩
theorem tCheck_c : Cd (tCheck C cls sz lg rs) := by
  unfold tCheck; split
  · exact ⟨by simp, by simp⟩
  · exact fits_c
theorem tHold_c : Cd (tHold C now cls sz lg rs).2 := by
  unfold tHold; split
  · exact ⟨by simp, by simp⟩
  · exact tCheck_c
theorem tLeave_c : Cd (tLeave id rs ls).2.2 := by
  unfold tLeave; split
  · exact ⟨by simp, by simp⟩
  · show Cd (tWithdraw id rs).2
    unfold tWithdraw Cd; repeat' split
    all_goals simp
theorem tJoin_c : Cd (tJoin C attr cls sz rs ls).code := by
  unfold tJoin; split
  · exact ⟨by simp, by simp⟩
  · split
    · exact ⟨by simp, by simp⟩
    · show Cd (tEnroll C attr cls sz rs).2
      unfold tEnroll Cd; split
      all_goals simp
theorem valid_c : Cd (valid C now q) := by
  unfold valid vLegs vParty Cd
  repeat' split
  all_goals simp
theorem dec_c (bs : List Int) : Cd (((dec bs).2 : Nat) : Int) := by
  unfold dec decE Cd
  split <;> simp
theorem roomS_c (n : Int) : Cd (roomS C σ J n).2.2 := by
  unfold roomS snapS Cd
  repeat' split
  all_goals simp_all
theorem wrtS_c (x : List Int) : Cd (wrtS σ J x).2.2 := by
  unfold wrtS Cd
  repeat' split
  all_goals simp
end
/-! ### the numbers of an answer -/
section
variable {C : Cfg} {seq now id st cls sz attr skip : Int} {rs : List Rec} {ls : List (List Int)} {lg : List Leg} {q : Rq} {σ : Sg} {J : Jr}
theorem rpn_mv {op c st : Int} (ho : 0 ≤ op ∧ op ≤ 255) (h16 : op ≠ 16) (hc : Cd c) (hs : c = 0 → N63 st) : RpN (mvR op c st) := by
  unfold mvR
  split
  · rename_i h; exact { RpN.z with op := ho, st := hs h, one := fun h2 => absurd h2 h16 }
  · exact RpN.rf hc.b
theorem Gd.n_id (cv : CV C) (g : Gd C seq now rs ls) {id : Int} (h : has rs id) : N63 id := by
  have := g.len
  have := cv.mb.2
  unfold has at h
  exact ⟨by omega, by omega⟩
theorem n_len (cv : CV C) (g : Gd C seq now rs ls) : N63 ((rs.length + 1 : Nat) : Int) := by
  have := g.len
  have := cv.mb.2
  exact ⟨by omega, by omega⟩
/-! the windows given out -/
structure IsP (C : Cfg) (now : Int) (L : Nat) (s : SrvS) : Prop where
  n : ∀ x ∈ s.iss, N63 x.id ∧ N63 x.slot
  l : s.iss.length + waits s.rs ≤ L
theorem srvA_is {i : Nat} (cv : CV C) {L : Nat} : ∀ {f : Nat} {s : SrvS}, Gd C seq now s.rs s.ls → IsP C now L s → IsP C now L (srvA C now i f s)
  | 0, s, g, h => h
  | f + 1, s, g, h => by
    rw [srvA]
    split
    · exact h
    · rename_i p hp
      have ho := (firstOf_mem hp).2
      obtain ⟨hh, h7, s0, s1⟩ := tOffer_b ho
      have gi := g.issue cv ho
      refine srvA_is cv (s := ⟨(tIssue p.1 p.2 s.rs).1, tRemove p.1 s.ls, s.iss ++ [⟨p.1, p.2⟩]⟩) gi ⟨fun x hx => ?_, ?_⟩
      · rcases List.mem_append.1 hx with q | q
        · exact h.n x q
        · rw [List.mem_singleton.1 q]
          have := g.now
          have := cv.mc.2
          have := cv.of
          have := cv.hz
          exact ⟨g.n_id cv hh, ⟨by simp only; omega, by simp only; omega⟩⟩
      · have := tIssue_w (slot := p.2) hh h7
        have := h.l
        simp only [List.length_append, List.length_singleton]
        omega
theorem srvL_is (cv : CV C) {L : Nat} : ∀ {n i : Nat} {s : SrvS}, Gd C seq now s.rs s.ls → IsP C now L s → IsP C now L (srvL C now n i s)
  | 0, i, s, g, h => h
  | n + 1, i, s, g, h => srvL_is cv (n := n) (i := i + 1) (g.srvA cv) (srvA_is cv g h)
theorem serve_is (cv : CV C) (g : Gd C seq now rs ls) : IsP C now (waits rs) (tServe C now rs ls) := srvL_is cv (s := ⟨rs, ls, []⟩) g ⟨fun x hx => (by cases hx), by simp⟩
theorem cnt_N (cv : CV C) (g : Gd C seq now rs ls) (f : Rec → Bool) : N63 ((rs.countP f : Nat) : Int) := by
  have : rs.countP f ≤ rs.length := List.countP_le_length
  have := g.len
  have := cv.mb.2
  exact ⟨by omega, by omega⟩
theorem rpn_tk (cv : CV C) (hmb : C.mb ≤ 1000000) (g : SGd C σ) (ho : 0 ≤ q.op ∧ q.op ≤ 255) (h16 : q.op ≠ 16) : RpN (tkR C q σ) := by
  unfold tkR
  split
  · exact RpN.rf ⟨by decide, by decide⟩
  · have gs := g.serve cv
    have is := serve_is cv g
    have hw : waits σ.rs ≤ σ.rs.length := List.countP_le_length
    have := g.len
    have := g.now
    have := cv.mc.2
    refine { RpN.z with op := ho, now := ⟨by simp only; omega, by simp only; omega⟩, iss := is.n, il := ?_, exd := cnt_N cv gs _, ns := cnt_N cv gs _, lp := cnt_N cv gs _, one := fun h2 => absurd h2 h16 }
    have := is.l
    simp only
    omega
theorem rpn_ap (cv : CV C) (hmb : C.mb ≤ 1000000) (g : SGd C σ) (hv : valid C σ.now q = 0) (hop : 1 ≤ q.op ∧ q.op ≤ 9) : RpN (apS C q σ).2 := by
  have ho : 0 ≤ q.op ∧ q.op ≤ 255 := ⟨by omega, by omega⟩
  have h16 : q.op ≠ 16 := by omega
  have hn := g.now
  have mc := cv.mc.2
  have ht := cv.ht
  unfold apS
  by_cases c1 : q.op = 1
  · rw [if_pos c1]
    show RpN (hoR C q σ)
    unfold hoR
    split
    · rename_i h0
      unfold tHold at h0
      split at h0
      · rename_i h1
        refine { RpN.z with op := ho, id := ?_, ex := ?_, one := fun h2 => absurd h2 h16 }
        · unfold tHoldR; rw [if_pos h1]; exact n_len cv g
        · unfold tHoldR; rw [if_pos h1]; exact ⟨by simp only; omega, by simp only; omega⟩
      · rename_i h1; exact absurd h0 h1
    · exact RpN.rf tHold_c.b
  rw [if_neg c1]
  have mv : ∀ {p : List Rec × Int}, Cd p.2 → (p.2 = 0 → has p.1 q.id) → (∃ ls, Gd C σ.seq σ.now p.1 ls) → RpN (mvS q σ p).2 := fun {p} hc hh ⟨ls, hg⟩ => by
    refine rpn_mv ho h16 hc fun h0 => ?_
    exact (hg.rn _ (hg.ids.rget (hh h0)).1).st
  by_cases c2 : q.op = 2
  · rw [if_pos c2]; exact mv tConfirm_c tConfirm_has ⟨_, g.confirm⟩
  rw [if_neg c2]
  by_cases c3 : q.op = 3
  · rw [if_pos c3]; exact mv tCancel_c tCancel_has ⟨_, g.cancel⟩
  rw [if_neg c3]
  by_cases c4 : q.op = 4
  · rw [if_pos c4]; exact mv tArrive_c tArrive_has ⟨_, g.arrive (.inl rfl)⟩
  rw [if_neg c4]
  by_cases c5 : q.op = 5
  · rw [if_pos c5]; exact mv tRebook_c tRebook_has ⟨_, g.rebook cv (valid_rebook hv c5)⟩
  rw [if_neg c5]
  by_cases c6 : q.op = 6
  · rw [if_pos c6]
    show RpN (joR q (tJoin C q.at' q.cl q.sz σ.rs σ.ls))
    unfold joR
    split
    · rename_i h0
      unfold tJoin at h0 ⊢
      split
      · exact { RpN.z with op := ho, one := fun h2 => absurd h2 h16 }
      · split
        · rename_i h1 h2
          refine { RpN.z with op := ho, id := n_len cv g, pos := ?_, one := fun h2 => absurd h2 h16 }
          have := cv.mx
          exact ⟨by simp only; omega, by simp only; omega⟩
        · exact { RpN.z with op := ho, one := fun h2 => absurd h2 h16 }
    · exact RpN.rf tJoin_c.b
  rw [if_neg c6]
  by_cases c7 : q.op = 7
  · rw [if_pos c7]
    exact rpn_mv ho h16 tLeave_c fun h0 => (g.leave.rn _ (g.leave.ids.rget (tLeave_has h0)).1).st
  rw [if_neg c7]
  by_cases c8 : q.op = 8
  · rw [if_pos c8]; exact mv tArrive_c tArrive_has ⟨_, g.arrive (.inr rfl)⟩
  rw [if_neg c8]
  by_cases c9 : q.op = 9
  · rw [if_pos c9]; exact rpn_tk cv hmb g ho h16
  · rw [if_neg c9]; exact RpN.rf ⟨by decide, by decide⟩
/-! questions -/
theorem fndF_b : ∀ {n : Nat} {run x s : Int}, 0 ≤ run → 1 ≤ (attOf C attr).dw → fndF C rs attr cls sz n run x = some s → x - run ≤ s ∧ s ≤ x + ((n : Nat) : Int)
  | 0, run, x, s, h0, hd, h => by cases h
  | n + 1, run, x, s, h0, hd, h => by
    rw [fndF] at h
    generalize hr : (if inside C rs attr x 0 + sz ≤ (attOf C attr).cap then run + 1 else 0) = run' at h
    have hr2 : run' = run + 1 ∨ run' = 0 := by rw [← hr]; split <;> simp
    split at h
    · have := fndF_b (by omega) hd h
      omega
    · rename_i h1
      split at h
      · cases h
        omega
      · have := fndF_b (by omega) hd h
        omega
end
end Go.Proofs.Qxb6500896aGreat
