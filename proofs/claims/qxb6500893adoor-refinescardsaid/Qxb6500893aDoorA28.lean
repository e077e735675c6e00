import Derived.Test.Qxb6500893aDoorA27
import Derived.Test.Qxb6500893aDoorShMap2
import Derived.Test.Qxb6500893aDoorShApp
namespace Go.Proofs.Qxb6500893aDoor
open Go.Sh Go.RowKit
set_option linter.unusedVariables false
set_option linter.unusedSimpArgs false

/-! ### the model in memory -/
structure Mp where
  bw : Nat
  n : Nat
  us : List Int
  pk : Nat
  fl : Nat
  pb : Nat
  mp : Nat
structure Md where
  mb : Nat
  room : Nat
  ob : Option Nat
  sv : Value
  ps : List Mp
def ppV (p : Mp) : List Value := [P p.pb 0]
def mpR (p : Mp) : List Value := [I p.bw, I p.n, .map (some p.mp), I p.pk, U64 p.fl]
theorem ppV_len (p : Mp) : (ppV p).length = 1 := rfl
structure MAt (w : World) (M : Md) : Prop where
  row : Row w M.mb 54 [I M.room, M.sv]
  sl : Sl ppV 1 w 57 M.ob M.sv M.ps
  rw : ∀ p ∈ M.ps, Row w p.pb 60 (mpR p)
  mp : ∀ p ∈ M.ps, MapT w p.mp .i64 p.us
  nd1 : (M.ps.map (·.pb)).Nodup
  nd2 : (M.ps.map (·.mp)).Nodup
def OwnM (M : Md) (b : Nat) : Prop := b = M.mb ∨ M.ob = some b ∨ (∃ p ∈ M.ps, p.pb = b) ∨ ∃ p ∈ M.ps, p.mp = b

section
variable {W w w' : World} {m m' : Wm} {s s' : Ws} {M M' : Md} {C : Nat → Prop} {b i : Nat} {K : Value → World → Prop} {q : IntKind} {ns : List Int}
theorem Wd.nmap (h : Wd w m s) (hm : MapT w b q ns) : ¬ OwnW m s.L b := by
  obtain ⟨junk, hj, hp⟩ := h.tbl.pools
  rintro (e | e | e | e | e | ⟨x, hx, e⟩)
  · exact hm.not_row h.row e.symm
  · rcases e with e | e | e
    · exact hm.not_row h.arn.row e.symm
    · exact hm.not_row h.arn.ws e.symm
    · obtain ⟨l, hr⟩ := h.arn.sd.row e; exact hm.not_row hr rfl
  · exact hm.not_row h.tbl.row e.symm
  · exact hm.not_row hp e.symm
  · obtain ⟨l, hr⟩ := h.live.sl.row e; exact hm.not_row hr rfl
  · exact hm.not_row (h.live.rw x hx) e
theorem Wd.nM (h : Wd w m s) (hM : MAt w M) (hb : OwnM M b) : ¬ OwnW m s.L b := by
  rcases hb with e | e | ⟨p, hp, e⟩ | ⟨p, hp, e⟩
  · rw [e]; exact h.ntag hM.row (by decide)
  · obtain ⟨l, hr⟩ := hM.sl.row e; exact h.ntag hr (by decide)
  · rw [← e]; exact h.ntag (hM.rw p hp) (by decide)
  · rw [← e]; exact h.nmap (hM.mp p hp)
theorem MAt.lt (h : MAt w M) (hb : OwnM M b) : b < w.heap.size := by
  rcases hb with e | e | ⟨p, hp, e⟩ | ⟨p, hp, e⟩
  · rw [e]; exact h.row.lt
  · obtain ⟨l, hr⟩ := h.sl.row e; exact hr.lt
  · rw [← e]; exact (h.rw p hp).lt
  · rw [← e]; exact (h.mp p hp).lt
theorem MAt.kp (h : MAt w M) (hk : Kp C w w') (hn : ∀ b, OwnM M b → ¬ C b) : MAt w' M :=
  ⟨hk.row h.row (hn _ (.inl rfl)), h.sl.kp hk (fun b e => hn b (.inr (.inl e))), fun p hp => hk.row (h.rw p hp) (hn _ (.inr (.inr (.inl ⟨p, hp, rfl⟩)))), fun p hp => (h.mp p hp).kp hk (hn _ (.inr (.inr (.inr ⟨p, hp, rfl⟩)))), h.nd1, h.nd2⟩
theorem MAt.kp' (h : MAt w M) (hk : Kp (fun _ => False) w w') : MAt w' M := h.kp hk (fun _ _ q => q)
/-- a block of another tag is none of the model's -/
theorem MAt.ntag (h : MAt w M) {t : TypeId} {l : List Value} (hr : Row w b t l) (h1 : t ≠ 54) (h2 : t ≠ 57) (h3 : t ≠ 60) : ¬ OwnM M b := by
  rintro (e | e | ⟨p, hp, e⟩ | ⟨p, hp, e⟩)
  · exact row_ne hr h.row h1 e
  · obtain ⟨l, hr'⟩ := h.sl.row e; exact row_ne hr hr' h2 rfl
  · exact row_ne hr (h.rw p hp) h3 e.symm
  · exact (h.mp p hp).not_row hr e.symm
/-- one pool of the model changes -/
theorem MAt.set (h : MAt w M) (hi : i < M.ps.length) {p' : Mp} (hk : Kp (fun b => b = M.ps[i].pb ∨ b = M.ps[i].mp) w w') (e1 : p'.pb = M.ps[i].pb) (e2 : p'.mp = M.ps[i].mp) (hr : Row w' p'.pb 60 (mpR p')) (hm : MapT w' p'.mp .i64 p'.us) :
    MAt w' { M with ps := M.ps.set i p' } := by
  have hpi := List.getElem_mem hi
  have nd1 := List.pairwise_iff_getElem.1 h.nd1
  have nd2 := List.pairwise_iff_getElem.1 h.nd2
  have hp1 : (M.ps.set i p').map (·.pb) = M.ps.map (·.pb) := by
    rw [List.map_set, e1]
    have : M.ps[i].pb = (M.ps.map (·.pb))[i]'(by simpa using hi) := by simp
    rw [this, List.set_getElem_self]
  have hp2 : (M.ps.set i p').map (·.mp) = M.ps.map (·.mp) := by
    rw [List.map_set, e2]
    have : M.ps[i].mp = (M.ps.map (·.mp))[i]'(by simpa using hi) := by simp
    rw [this, List.set_getElem_self]
  have nrow : ∀ {b t l}, Row w b t l → t ≠ 60 → ¬ (b = M.ps[i].pb ∨ b = M.ps[i].mp) := fun hr ht q => by
    rcases q with q | q
    · exact row_ne hr (h.rw _ hpi) ht q
    · exact (h.mp _ hpi).not_row hr q
  have ek : ppV p' = ppV M.ps[i] := by unfold ppV; rw [e1]
  have pbne : ∀ k (hk : k < M.ps.length), i ≠ k → M.ps[k].pb ≠ M.ps[i].pb := fun k hk' e q => by
    rcases Nat.lt_or_gt_of_ne e with hlt | hlt
    · exact nd1 i k (by simpa using hi) (by simpa using hk') hlt (by simpa using q.symm)
    · exact nd1 k i (by simpa using hk') (by simpa using hi) hlt (by simpa using q)
  have mpne : ∀ k (hk : k < M.ps.length), i ≠ k → M.ps[k].mp ≠ M.ps[i].mp := fun k hk' e q => by
    rcases Nat.lt_or_gt_of_ne e with hlt | hlt
    · exact nd2 i k (by simpa using hi) (by simpa using hk') hlt (by simpa using q.symm)
    · exact nd2 k i (by simpa using hk') (by simpa using hi) hlt (by simpa using q)
  refine ⟨hk.row h.row (nrow h.row (by decide)), ?_, ?_, ?_, by show ((M.ps.set i p').map _).Nodup; rw [hp1]; exact h.nd1, by show ((M.ps.set i p').map _).Nodup; rw [hp2]; exact h.nd2⟩
  · have h0 := h.sl
    show Sl ppV 1 w' 57 M.ob M.sv (M.ps.set i p')
    cases hob : M.ob with
    | none => rw [hob] at h0; obtain ⟨_, e⟩ := h0; rw [e] at hi; simp at hi
    | some b =>
      rw [hob] at h0
      obtain ⟨cap, junk, a1, a2, a3, a4⟩ := h0
      refine ⟨cap, junk, by rw [List.length_set]; exact a1, by rw [List.length_set]; exact a2, by rw [List.length_set]; exact a3, ?_⟩
      rw [rows_set_same _ _ hi _ ek]
      exact hk.row a4 (nrow a4 (by decide))
  · intro p hp
    obtain ⟨k, hk', rfl⟩ := List.getElem_of_mem hp
    have hk' : k < M.ps.length := by simpa using hk'
    show Row w' ((M.ps.set i p')[k]'_).pb 60 _
    by_cases e : i = k
    · subst e; rw [List.getElem_set_self]; exact hr
    · rw [List.getElem_set_ne e]
      refine hk.row (h.rw _ (List.getElem_mem hk')) (fun q => ?_)
      rcases q with q | q
      · exact pbne k hk' e q
      · exact (h.mp _ hpi).not_row (h.rw _ (List.getElem_mem hk')) q
  · intro p hp
    obtain ⟨k, hk', rfl⟩ := List.getElem_of_mem hp
    have hk' : k < M.ps.length := by simpa using hk'
    show MapT w' ((M.ps.set i p')[k]'_).mp _ _
    by_cases e : i = k
    · subst e; rw [List.getElem_set_self]; exact hm
    · rw [List.getElem_set_ne e]
      refine (h.mp _ (List.getElem_mem hk')).kp hk (fun q => ?_)
      rcases q with q | q
      · exact (h.mp _ (List.getElem_mem hk')).not_row (h.rw _ hpi) q.symm
      · exact mpne k hk' e q
theorem MAt.get (h : MAt w M) (hi : i < M.ps.length) (hK : K (P M.ps[i].pb 0) w) : ixs 1 M.sv (I (i : Nat)) (fun p w => ld1 p K w) w := by
  refine h.sl.ix ppV_len hi fun b l hb hr hg hll _ => ?_
  refine ld1_r hr (v := P M.ps[i].pb 0) (by have := hg 0 (by decide); rw [Nat.add_zero] at this; rw [this]; rfl) hK

/-! ### the model's functions -/
set_option maxRecDepth 100000 in
theorem und58 : Tryd.prog.underlying 58 = some (.map 2 4) := by kernel_rfl
set_option maxRecDepth 100000 in
theorem und2 : Tryd.prog.underlying 2 = some (.int .i64) := by kernel_rfl
set_option maxRecDepth 100000 in
theorem und4 : Tryd.prog.underlying 4 = some .bool := by kernel_rfl
set_option maxRecDepth 100000 in
theorem zero1 : (zeroValue 4).run Tryd.prog w = .ok (.bool false) w := by
  rfl

theorem has_ok {id : Int} (h : MAt w M) (hK : K (.bool (decide (0 ≤ id ∧ id < M.ps.length))) w) : cl Tryd.prog 60 #[P M.mb 0, I id] K w := by
  apply c60
  unfold s60_p1
  try simp only [e_fd, e_nck, e_pkt, e_pkf, e_gdtt, e_gdtf, e_gdft, e_gdff, e_ift, e_iff, e_not, e_ln, e_lnT, e_cp, e_cvi, e_ex20, e_ex21, e_ex30, e_ex31, e_ex32, e_add, e_sub, e_mul, e_quo, e_rem, e_and, e_or, e_xor, e_shl, e_shr, e_eql, e_neq, e_lss, e_leq, e_gtr, e_geq, e_beq, e_bne, e_peq1, e_peq2, e_pne1, e_pne2, e_zeq1, e_zeq2, e_zne1, e_zne2, e_feq1, e_fne1, e_feq2, e_fne2, e_seq, e_sne, e_ta1, e_ta2, Nat.zero_add, Nat.add_zero, Bool.not_true, Bool.not_false]
  by_cases h0 : 0 ≤ id
  · simp only [h0, decide_true, e_fd, e_nck, e_pkt, e_pkf, e_gdtt, e_gdtf, e_gdft, e_gdff, e_ift, e_iff, e_not, e_ln, e_lnT, e_cp, e_cvi, e_ex20, e_ex21, e_ex30, e_ex31, e_ex32, e_add, e_sub, e_mul, e_quo, e_rem, e_and, e_or, e_xor, e_shl, e_shr, e_eql, e_neq, e_lss, e_leq, e_gtr, e_geq, e_beq, e_bne, e_peq1, e_peq2, e_pne1, e_pne2, e_zeq1, e_zeq2, e_zne1, e_zne2, e_feq1, e_fne1, e_feq2, e_fne2, e_seq, e_sne, e_ta1, e_ta2, Nat.zero_add, Nat.add_zero, Bool.not_true, Bool.not_false]
    refine ld1_r h.row rfl ?_
    refine h.sl.ln ?_
    try simp only [e_fd, e_nck, e_pkt, e_pkf, e_gdtt, e_gdtf, e_gdft, e_gdff, e_ift, e_iff, e_not, e_ln, e_lnT, e_cp, e_cvi, e_ex20, e_ex21, e_ex30, e_ex31, e_ex32, e_add, e_sub, e_mul, e_quo, e_rem, e_and, e_or, e_xor, e_shl, e_shr, e_eql, e_neq, e_lss, e_leq, e_gtr, e_geq, e_beq, e_bne, e_peq1, e_peq2, e_pne1, e_pne2, e_zeq1, e_zeq2, e_zne1, e_zne2, e_feq1, e_fne1, e_feq2, e_fne2, e_seq, e_sne, e_ta1, e_ta2, Nat.zero_add, Nat.add_zero, Bool.not_true, Bool.not_false]
    have e : decide (0 ≤ id ∧ id < M.ps.length) = decide (id < ((M.ps.length : Nat) : Int)) := by simp [h0]
    rw [e] at hK; exact hK
  · simp only [h0, decide_false, e_fd, e_nck, e_pkt, e_pkf, e_gdtt, e_gdtf, e_gdft, e_gdff, e_ift, e_iff, e_not, e_ln, e_lnT, e_cp, e_cvi, e_ex20, e_ex21, e_ex30, e_ex31, e_ex32, e_add, e_sub, e_mul, e_quo, e_rem, e_and, e_or, e_xor, e_shl, e_shr, e_eql, e_neq, e_lss, e_leq, e_gtr, e_geq, e_beq, e_bne, e_peq1, e_peq2, e_pne1, e_pne2, e_zeq1, e_zeq2, e_zne1, e_zne2, e_feq1, e_fne1, e_feq2, e_fne2, e_seq, e_sne, e_ta1, e_ta2, Nat.zero_add, Nat.add_zero, Bool.not_true, Bool.not_false]
    have e : decide (0 ≤ id ∧ id < M.ps.length) = false := by simp [h0]
    rw [e] at hK; exact hK
end
end Go.Proofs.Qxb6500893aDoor
