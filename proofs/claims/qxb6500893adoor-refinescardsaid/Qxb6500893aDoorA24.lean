import Derived.Test.Qxb6500893aDoorA23
namespace Go.Proofs.Qxb6500893aDoor
open Go.Sh Go.RowKit
set_option linter.unusedVariables false
set_option linter.unusedSimpArgs false

def g1 (x : Nat) : List Value := [U64 x]
theorem g1_len (x : Nat) : (g1 x).length = 1 := rfl
theorem rows_g1 (xs : List Nat) : rows g1 xs = xs.map U64 := by
  induction xs with
  | nil => rfl
  | cons x xs ih => rw [rows_cons, ih]; rfl
/-- an audit under way: the meter, the copy of the bitmap -/
structure Au (w0 w : World) (ab p sb so : Nat) (M : Am) (A : Ar) (sh : Shp) (k : Nat) (mob : Option Nat) (mv : Value) (xs : List Nat) : Prop where
  pt : Pt w ab p M (tk A k)
  shp : ShAt w sb so sh
  mks_ : Sl g1 1 w 71 mob mv xs
  nm : ∀ b, mob = some b → w0.heap.size ≤ b
  kp : Kp (OwnA ab M) w0 w
  p0 : w0.heap.size ≤ p
  a0 : Arn w0 ab M A
  rng : ∀ x ∈ xs, x < 18446744073709551616

section
variable {w0 w w' : World} {K : Value → World → Prop} {ab p sb so k : Nat} {M : Am} {A : Ar} {sh : Shp} {T : Tb} {mob : Option Nat} {mv : Value} {xs : List Nat} {C : Prop} {F : List Nat} {t8 t9 : Value}
theorem tk_add (A : Ar) (a b : Nat) : tk (tk A a) b = tk A (a + b) := by unfold tk; simp only [tick_add]
theorem Au.load {a : Nat} (h : Au w0 w ab p sb so M A sh k mob mv xs) (ha : a < 4096) (hK : ∀ w', Au w0 w' ab p sb so M A sh (k + 1) mob mv xs → K (U64 (A.ws a)) w') : cl Tryd.prog 55 #[P p 0, U32 a] K w := by
  refine pload_ok h.pt ha fun w1 p1 st1 => ?_
  have e : ({ tk A k with st := tick (tk A k).st 1 } : Ar) = tk A (k + 1) := by rw [← tk_add]; rfl
  rw [e] at p1
  have hp0 := h.p0
  refine hK w1 ⟨p1, h.pt.sh st1 h.shp, h.mks_.kp st1.kp (fun b hb q => ?_), h.nm, h.kp.then st1.kp (fun b hb q => ?_), h.p0, h.a0, h.rng⟩
  · have h1 := h.nm b hb
    rcases q with q | q
    · have := h.a0.lt q; omega
    · obtain ⟨l, hr⟩ := h.mks_.row hb; exact row_ne hr h.pt.port (by decide) q
  · rcases q with q | q
    · exact q
    · omega
theorem Au.kp' (h : Au w0 w ab p sb so M A sh k mob mv xs) (hk : Kp (fun _ => False) w w') : Au w0 w' ab p sb so M A sh k mob mv xs :=
  ⟨h.pt.kp' hk, h.shp.kp' hk, h.mks_.kp' hk, h.nm, h.kp.then hk (fun _ _ q => q.elim), h.p0, h.a0, h.rng⟩
theorem Au.frame (h : Au w0 w ab p sb so M A sh k mob mv xs) {mob' : Option Nat} {mv' : Value} {xs' : List Nat} (hk : Kp (fun b => mob = some b) w w') (hs : Sl g1 1 w' 71 mob' mv' xs') (ho : ∀ b, mob' = some b → mob = some b ∨ w.heap.size ≤ b) (hr : ∀ x ∈ xs', x < 18446744073709551616) : Au w0 w' ab p sb so M A sh k mob' mv' xs' := by
  have hz := h.kp.size
  have no : ∀ b, OwnA ab M b → ¬ mob = some b := fun b hb q => by have := h.nm b q; have := h.a0.lt hb; omega
  refine ⟨⟨h.pt.arn.frame hk no, hk.row h.pt.port (fun q => ?_)⟩, h.shp.kp hk (fun b l hr q => ?_), hs, fun b hb => ?_, h.kp.then hk (fun b hb q => ?_), h.p0, h.a0, hr⟩
  · obtain ⟨l, hr⟩ := h.mks_.row q; exact row_ne hr h.pt.port (by decide) rfl
  · obtain ⟨l', hr'⟩ := h.mks_.row q; exact row_ne hr hr' (by decide) rfl
  · rcases ho b hb with q | q
    · exact h.nm b q
    · omega
  · have := h.nm b q; omega
/-! ### the bitmap is copied and counted -/
def pcS (A : Ar) (sh : Shp) (t : Nat) : Nat := ((List.range t).map (fun i => pcF (A.ws (sh.bm + i)))).sum
theorem pcS_succ (A : Ar) (sh : Shp) (t : Nat) : pcS A sh (t + 1) = pcS A sh t + pcF (A.ws (sh.bm + t)) := by
  unfold pcS; rw [List.range_succ, List.map_append, List.sum_append]; simp
theorem pcS_le (A : Ar) (sh : Shp) : ∀ t, pcS A sh t ≤ 127 * t
  | 0 => Nat.le_refl _
  | t + 1 => by rw [pcS_succ]; have := pcS_le A sh t; have := pcF_le (A.ws (sh.bm + t)); omega
theorem mapW_small (hok : sh.Ok) : mapW sh.n ≤ 4096 ∧ sh.n ≤ 4096 ∧ 1 ≤ mapW sh.n := by
  have h1 := hok.fin
  have h2 := hok.lim
  have h3 : sh.n * 1 ≤ sh.n * sh.bw := Nat.mul_le_mul_left _ hok.bw1
  have h4 := hok.n1
  have h5 : mapW sh.n = (sh.n + 63) / 64 := rfl
  omega
theorem cutW_succ {ws : Nat → Nat} {a t : Nat} : cutW ws a (t + 1) = cutW ws a t ++ [ws (a + t)] := by unfold cutW; rw [List.range_succ, List.map_append]; rfl
theorem audit_l1 (hok : sh.Ok) (hA : ∀ i, i < 4096 → A.ws i < 18446744073709551616) (h : Au w0 w ab p sb so M A sh k mob mv [])
    (next : ∀ w' k' mob' mv', Au w0 w' ab p sb so M A sh k' mob' mv' (cutW A.ws sh.bm (mapW sh.n)) → s48_p4 K (P sb so) (P p 0) t8 t9 mv' (I (pcS A sh (mapW sh.n))) w') :
    s48_p6 K (P sb so) (P p 0) t8 t9 mv (I 0) (U32 sh.bm) w := by
  obtain ⟨hm, hn4, hm1⟩ := mapW_small hok
  have hfst := hok.fst
  have hfin := hok.fin
  have hlim := hok.lim
  unfold s48_p6
  refine ⟨fun n l w' => ∃ (t k' : Nat) (mob' : Option Nat) (mv' : Value), n + t = mapW sh.n ∧ l = [P sb so, P p 0, t8, t9, mv', I (pcS A sh t), U32 (sh.bm + t)] ∧ Au w0 w' ab p sb so M A sh k' mob' mv' (cutW A.ws sh.bm t),
    mapW sh.n, ⟨0, k, mob, mv, rfl, rfl, h⟩, ?_⟩
  rintro n l w1 ⟨t, k1, mob1, mv1, hnt, rfl, h1⟩
  rw [s48_p6_Fe]
  unfold s48_p5
  try simp only [e_fd, e_nck, e_pkt, e_pkf, e_gdtt, e_gdtf, e_gdft, e_gdff, e_ift, e_iff, e_not, e_ln, e_lnT, e_cp, e_cvi, e_ex20, e_ex21, e_ex30, e_ex31, e_ex32, e_add, e_sub, e_mul, e_quo, e_rem, e_and, e_or, e_xor, e_shl, e_shr, e_eql, e_neq, e_lss, e_leq, e_gtr, e_geq, e_beq, e_bne, e_peq1, e_peq2, e_pne1, e_pne2, e_zeq1, e_zeq2, e_zne1, e_zne2, e_feq1, e_fne1, e_feq2, e_fne2, e_seq, e_sne, e_ta1, e_ta2, Nat.zero_add, Nat.add_zero, Bool.not_true, Bool.not_false]
  refine h1.shp.ld (k := 2) (by decide) rfl rfl ?_
  try simp only [e_fd, e_nck, e_pkt, e_pkf, e_gdtt, e_gdtf, e_gdft, e_gdff, e_ift, e_iff, e_not, e_ln, e_lnT, e_cp, e_cvi, e_ex20, e_ex21, e_ex30, e_ex31, e_ex32, e_add, e_sub, e_mul, e_quo, e_rem, e_and, e_or, e_xor, e_shl, e_shr, e_eql, e_neq, e_lss, e_leq, e_gtr, e_geq, e_beq, e_bne, e_peq1, e_peq2, e_pne1, e_pne2, e_zeq1, e_zeq2, e_zne1, e_zne2, e_feq1, e_fne1, e_feq2, e_fne2, e_seq, e_sne, e_ta1, e_ta2, Nat.zero_add, Nat.add_zero, Bool.not_true, Bool.not_false]
  have pcb := pcS_le A sh t
  by_cases hlt : t < mapW sh.n
  · have hlt' : ((sh.bm + t : Nat) : Int) < ((sh.fst : Nat) : Int) := by omega
    simp only [hlt', decide_true, e_fd, e_nck, e_pkt, e_pkf, e_gdtt, e_gdtf, e_gdft, e_gdff, e_ift, e_iff, e_not, e_ln, e_lnT, e_cp, e_cvi, e_ex20, e_ex21, e_ex30, e_ex31, e_ex32, e_add, e_sub, e_mul, e_quo, e_rem, e_and, e_or, e_xor, e_shl, e_shr, e_eql, e_neq, e_lss, e_leq, e_gtr, e_geq, e_beq, e_bne, e_peq1, e_peq2, e_pne1, e_pne2, e_zeq1, e_zeq2, e_zne1, e_zne2, e_feq1, e_fne1, e_feq2, e_fne2, e_seq, e_sne, e_ta1, e_ta2, Nat.zero_add, Nat.add_zero, Bool.not_true, Bool.not_false]
    refine h1.load (by omega) fun w2 h2 => ?_
    have hx := hA (sh.bm + t) (by omega)
    refine h2.mks_.app g1_len rfl (A.ws (sh.bm + t)) rfl (by rw [cutW_len]; omega) (by rw [cutW_len]; omega) rfl fun w3 mv3 mob3 sl3 hk3 ho3 => ?_
    rw [← cutW_succ] at sl3
    have h3 := h2.frame hk3 sl3 (fun b hb => by
      rcases ho3 with q | ⟨b', q, hb'⟩
      · exact .inl (q ▸ hb)
      · rw [hb] at q; cases q; exact .inr hb') (fun x hx' => by
        unfold cutW at hx'
        rw [List.mem_map] at hx'
        obtain ⟨i, hi, rfl⟩ := hx'
        rw [List.mem_range] at hi
        exact hA _ (by omega))
    refine ones_ok hx ?_
    have pcl := pcF_le (A.ws (sh.bm + t))
    try simp only [e_fd, e_nck, e_pkt, e_pkf, e_gdtt, e_gdtf, e_gdft, e_gdff, e_ift, e_iff, e_not, e_ln, e_lnT, e_cp, e_cvi, e_ex20, e_ex21, e_ex30, e_ex31, e_ex32, e_add, e_sub, e_mul, e_quo, e_rem, e_and, e_or, e_xor, e_shl, e_shr, e_eql, e_neq, e_lss, e_leq, e_gtr, e_geq, e_beq, e_bne, e_peq1, e_peq2, e_pne1, e_pne2, e_zeq1, e_zeq2, e_zne1, e_zne2, e_feq1, e_fne1, e_feq2, e_fne2, e_seq, e_sne, e_ta1, e_ta2, Nat.zero_add, Nat.add_zero, Bool.not_true, Bool.not_false]
    rw [show ((pcS A sh t : Nat) : Int) + ((pcF (A.ws (sh.bm + t)) : Nat) : Int) = ((pcS A sh (t + 1) : Nat) : Int) by rw [pcS_succ]; omega]
    have pcb2 := pcS_le A sh (t + 1)
    rw [wrap64_id (by omega) (by omega), show ((sh.bm + t : Nat) : Int) + 1 = ((sh.bm + (t + 1) : Nat) : Int) by omega, w32 (by omega)]
    exact ⟨n - 1, by omega, t + 1, k1 + 1, mob3, mv3, by omega, rfl, h3⟩
  · have hlt' : ¬ ((sh.bm + t : Nat) : Int) < ((sh.fst : Nat) : Int) := by omega
    simp only [hlt', decide_false, e_fd, e_nck, e_pkt, e_pkf, e_gdtt, e_gdtf, e_gdft, e_gdff, e_ift, e_iff, e_not, e_ln, e_lnT, e_cp, e_cvi, e_ex20, e_ex21, e_ex30, e_ex31, e_ex32, e_add, e_sub, e_mul, e_quo, e_rem, e_and, e_or, e_xor, e_shl, e_shr, e_eql, e_neq, e_lss, e_leq, e_gtr, e_geq, e_beq, e_bne, e_peq1, e_peq2, e_pne1, e_pne2, e_zeq1, e_zeq2, e_zne1, e_zne2, e_feq1, e_fne1, e_feq2, e_fne2, e_seq, e_sne, e_ta1, e_ta2, Nat.zero_add, Nat.add_zero, Bool.not_true, Bool.not_false]
    have et : t = mapW sh.n := by omega
    subst et
    exact next w1 k1 mob1 mv1 h1
/-! ### the free list is followed -/
def bitX (xs : List Nat) (j : Nat) : Bool := (xs.getD (j / 64) 0).testBit (j % 64)
theorem bitX_set {j j' : Nat} (hj : j / 64 < xs.length) : bitX (xs.set (j / 64) (xs.getD (j / 64) 0 ||| 2 ^ (j % 64))) j' = (bitX xs j' || decide (j' = j)) := by
  unfold bitX
  simp only [List.getD_eq_getElem?_getD, List.getElem?_set]
  by_cases e : j / 64 = j' / 64
  · rw [if_pos e, if_pos hj, ← e]
    simp only [Option.getD_some]
    rw [Nat.testBit_or, Nat.testBit_two_pow]
    congr 1
    rw [Bool.eq_iff_iff, decide_eq_true_eq, decide_eq_true_eq]
    omega
  · rw [if_neg e]
    have : decide (j' = j) = false := by simp; intro q; subst q; exact e rfl
    rw [this, Bool.or_false]
def cnt0 (xs : List Nat) (n : Nat) : Nat := cntP (fun j => !bitX xs j) n
theorem audit_l2 (hok : sh.Ok) (hA : ∀ i, i < 4096 → A.ws i < 18446744073709551616) (hC : C → PoolOk A.ws sh F) {link : Nat} (hlk : link < 18446744073709551616) (h : Au w0 w ab p sb so M A sh k mob mv xs) (hxl : xs.length = mapW sh.n)
    (hcl : C → ∀ j, j < sh.n → bitX xs j = decide (j ∉ F)) (hch : C → Chain A.ws sh link F)
    (hK : ∀ w' k' code, Pt w' ab p M (tk A k') → Kp (OwnA ab M) w0 w' → (C → code = 0) → K (I code) w') :
    s48_p3 K (P sb so) (P p 0) (U64 sh.n) (U64 (A.ws (sh.ctl + 2))) mv (U64 0) (U64 link) w := by
  obtain ⟨hm, hn4, hm1⟩ := mapW_small hok
  have hfst := hok.fst
  have hfin := hok.fin
  have hlim := hok.lim
  have hctl := fst_ge hok
  have hnle := n_le sh.n
  have hu := hA (sh.ctl + 2) (by omega)
  have fin : ∀ {w1 k1 mob1 mv1 xs1} {code : Int}, Au w0 w1 ab p sb so M A sh k1 mob1 mv1 xs1 → (C → code = 0) → K (I code) w1 := fun h1 hc => hK _ _ _ h1.pt h1.kp hc
  have bad : ∀ {w1 k1 mob1 mv1 xs1}, Au w0 w1 ab p sb so M A sh k1 mob1 mv1 xs1 → ¬ C → cl Tryd.prog 54 #[P p 0, I 11] (fun t w => K t w) w1 := fun h1 hc => por_ok h1.pt (fin h1 (fun c => absurd c hc))
  unfold s48_p3
  refine ⟨fun n l w' => ∃ (k' : Nat) (mob' : Option Nat) (mv' : Value) (xs' : List Nat) (listed link' : Nat), n = cnt0 xs' sh.n ∧ l = [P sb so, P p 0, U64 sh.n, U64 (A.ws (sh.ctl + 2)), mv', U64 listed, U64 link'] ∧ Au w0 w' ab p sb so M A sh k' mob' mv' xs' ∧ xs'.length = mapW sh.n ∧ link' < 18446744073709551616 ∧ listed + cnt0 xs' sh.n ≤ sh.n ∧
      (C → ∃ F2, Chain A.ws sh link' F2 ∧ F2.Nodup ∧ (∀ j ∈ F2, j < sh.n) ∧ listed + F2.length = F.length ∧ ∀ j, j < sh.n → bitX xs' j = decide (j ∉ F2)),
    cnt0 xs sh.n, ⟨k, mob, mv, xs, 0, link, rfl, rfl, h, hxl, hlk, by have := cntP_le (fun j => !bitX xs j) sh.n; unfold cnt0; omega, fun c => ⟨F, hch c, (hC c).nd, (hC c).lt, by omega, hcl c⟩⟩, ?_⟩
  rintro n l w1 ⟨k1, mob1, mv1, xs1, listed, lk, hn, rfl, h1, hxl1, hlk1, hcnt, hcl1⟩
  rw [s48_p3_Fe]
  unfold s48_p2
  try simp only [e_fd, e_nck, e_pkt, e_pkf, e_gdtt, e_gdtf, e_gdft, e_gdff, e_ift, e_iff, e_not, e_ln, e_lnT, e_cp, e_cvi, e_ex20, e_ex21, e_ex30, e_ex31, e_ex32, e_add, e_sub, e_mul, e_quo, e_rem, e_and, e_or, e_xor, e_shl, e_shr, e_eql, e_neq, e_lss, e_leq, e_gtr, e_geq, e_beq, e_bne, e_peq1, e_peq2, e_pne1, e_pne2, e_zeq1, e_zeq2, e_zne1, e_zne2, e_feq1, e_fne1, e_feq2, e_fne2, e_seq, e_sne, e_ta1, e_ta2, Nat.zero_add, Nat.add_zero, Bool.not_true, Bool.not_false]
  by_cases h0 : lk = 0
  · subst h0
    simp only [show (((0 : Nat) : Int) != 0) = false from rfl, e_fd, e_nck, e_pkt, e_pkf, e_gdtt, e_gdtf, e_gdft, e_gdff, e_ift, e_iff, e_not, e_ln, e_lnT, e_cp, e_cvi, e_ex20, e_ex21, e_ex30, e_ex31, e_ex32, e_add, e_sub, e_mul, e_quo, e_rem, e_and, e_or, e_xor, e_shl, e_shr, e_eql, e_neq, e_lss, e_leq, e_gtr, e_geq, e_beq, e_bne, e_peq1, e_peq2, e_pne1, e_pne2, e_zeq1, e_zeq2, e_zne1, e_zne2, e_feq1, e_fne1, e_feq2, e_fne2, e_seq, e_sne, e_ta1, e_ta2, Nat.zero_add, Nat.add_zero, Bool.not_true, Bool.not_false]
    unfold s48_p1
    try simp only [e_fd, e_nck, e_pkt, e_pkf, e_gdtt, e_gdtf, e_gdft, e_gdff, e_ift, e_iff, e_not, e_ln, e_lnT, e_cp, e_cvi, e_ex20, e_ex21, e_ex30, e_ex31, e_ex32, e_add, e_sub, e_mul, e_quo, e_rem, e_and, e_or, e_xor, e_shl, e_shr, e_eql, e_neq, e_lss, e_leq, e_gtr, e_geq, e_beq, e_bne, e_peq1, e_peq2, e_pne1, e_pne2, e_zeq1, e_zeq2, e_zne1, e_zne2, e_feq1, e_fne1, e_feq2, e_fne2, e_seq, e_sne, e_ta1, e_ta2, Nat.zero_add, Nat.add_zero, Bool.not_true, Bool.not_false]
    refine ld1_r h1.pt.port rfl ?_
    simp only [bne_self_eq_false, e_fd, e_nck, e_pkt, e_pkf, e_gdtt, e_gdtf, e_gdft, e_gdff, e_ift, e_iff, e_not, e_ln, e_lnT, e_cp, e_cvi, e_ex20, e_ex21, e_ex30, e_ex31, e_ex32, e_add, e_sub, e_mul, e_quo, e_rem, e_and, e_or, e_xor, e_shl, e_shr, e_eql, e_neq, e_lss, e_leq, e_gtr, e_geq, e_beq, e_bne, e_peq1, e_peq2, e_pne1, e_pne2, e_zeq1, e_zeq2, e_zne1, e_zne2, e_feq1, e_fne1, e_feq2, e_fne2, e_seq, e_sne, e_ta1, e_ta2, Nat.zero_add, Nat.add_zero, Bool.not_true, Bool.not_false]
    by_cases he : (IntKind.u64.wrap (((listed : Nat) : Int) + ((A.ws (sh.ctl + 2) : Nat) : Int)) != ((sh.n : Nat) : Int)) = true
    · simp only [he, e_fd, e_nck, e_pkt, e_pkf, e_gdtt, e_gdtf, e_gdft, e_gdff, e_ift, e_iff, e_not, e_ln, e_lnT, e_cp, e_cvi, e_ex20, e_ex21, e_ex30, e_ex31, e_ex32, e_add, e_sub, e_mul, e_quo, e_rem, e_and, e_or, e_xor, e_shl, e_shr, e_eql, e_neq, e_lss, e_leq, e_gtr, e_geq, e_beq, e_bne, e_peq1, e_peq2, e_pne1, e_pne2, e_zeq1, e_zeq2, e_zne1, e_zne2, e_feq1, e_fne1, e_feq2, e_fne2, e_seq, e_sne, e_ta1, e_ta2, Nat.zero_add, Nat.add_zero, Bool.not_true, Bool.not_false]
      refine bad h1 (fun c => ?_)
      obtain ⟨F2, c1, c2, c3, c4, c5⟩ := hcl1 c
      have hu2 := (hC c).used
      have : F2 = [] := by
        cases F2 with
        | nil => rfl
        | cons j F2 => have := c1.1; omega
      subst this
      have c4' : listed = F.length := by simpa using c4
      have : ((listed : Nat) : Int) + ((A.ws (sh.ctl + 2) : Nat) : Int) = ((sh.n : Nat) : Int) := by omega
      rw [this, w64 (by omega), bne_self_eq_false] at he
      cases he
    · have he' : (IntKind.u64.wrap (((listed : Nat) : Int) + ((A.ws (sh.ctl + 2) : Nat) : Int)) != ((sh.n : Nat) : Int)) = false := by simpa using he
      simp only [he', e_fd, e_nck, e_pkt, e_pkf, e_gdtt, e_gdtf, e_gdft, e_gdff, e_ift, e_iff, e_not, e_ln, e_lnT, e_cp, e_cvi, e_ex20, e_ex21, e_ex30, e_ex31, e_ex32, e_add, e_sub, e_mul, e_quo, e_rem, e_and, e_or, e_xor, e_shl, e_shr, e_eql, e_neq, e_lss, e_leq, e_gtr, e_geq, e_beq, e_bne, e_peq1, e_peq2, e_pne1, e_pne2, e_zeq1, e_zeq2, e_zne1, e_zne2, e_feq1, e_fne1, e_feq2, e_fne2, e_seq, e_sne, e_ta1, e_ta2, Nat.zero_add, Nat.add_zero, Bool.not_true, Bool.not_false]
      exact fin h1 (fun _ => rfl)
  · have e0 : (((lk : Nat) : Int) != 0) = true := by rw [bne_iff_ne]; omega
    simp only [e0, e_fd, e_nck, e_pkt, e_pkf, e_gdtt, e_gdtf, e_gdft, e_gdff, e_ift, e_iff, e_not, e_ln, e_lnT, e_cp, e_cvi, e_ex20, e_ex21, e_ex30, e_ex31, e_ex32, e_add, e_sub, e_mul, e_quo, e_rem, e_and, e_or, e_xor, e_shl, e_shr, e_eql, e_neq, e_lss, e_leq, e_gtr, e_geq, e_beq, e_bne, e_peq1, e_peq2, e_pne1, e_pne2, e_zeq1, e_zeq2, e_zne1, e_zne2, e_feq1, e_fne1, e_feq2, e_fne2, e_seq, e_sne, e_ta1, e_ta2, Nat.zero_add, Nat.add_zero, Bool.not_true, Bool.not_false]
    refine ld1_r h1.pt.port rfl ?_
    simp only [bne_self_eq_false, e_fd, e_nck, e_pkt, e_pkf, e_gdtt, e_gdtf, e_gdft, e_gdff, e_ift, e_iff, e_not, e_ln, e_lnT, e_cp, e_cvi, e_ex20, e_ex21, e_ex30, e_ex31, e_ex32, e_add, e_sub, e_mul, e_quo, e_rem, e_and, e_or, e_xor, e_shl, e_shr, e_eql, e_neq, e_lss, e_leq, e_gtr, e_geq, e_beq, e_bne, e_peq1, e_peq2, e_pne1, e_pne2, e_zeq1, e_zeq2, e_zne1, e_zne2, e_feq1, e_fne1, e_feq2, e_fne2, e_seq, e_sne, e_ta1, e_ta2, Nat.zero_add, Nat.add_zero, Bool.not_true, Bool.not_false]
    by_cases hgt : ((sh.n : Nat) : Int) < ((lk : Nat) : Int)
    · simp only [hgt, decide_true, e_fd, e_nck, e_pkt, e_pkf, e_gdtt, e_gdtf, e_gdft, e_gdff, e_ift, e_iff, e_not, e_ln, e_lnT, e_cp, e_cvi, e_ex20, e_ex21, e_ex30, e_ex31, e_ex32, e_add, e_sub, e_mul, e_quo, e_rem, e_and, e_or, e_xor, e_shl, e_shr, e_eql, e_neq, e_lss, e_leq, e_gtr, e_geq, e_beq, e_bne, e_peq1, e_peq2, e_pne1, e_pne2, e_zeq1, e_zeq2, e_zne1, e_zne2, e_feq1, e_fne1, e_feq2, e_fne2, e_seq, e_sne, e_ta1, e_ta2, Nat.zero_add, Nat.add_zero, Bool.not_true, Bool.not_false]
      refine bad h1 (fun c => ?_)
      obtain ⟨F2, c1, c2, c3, c4, c5⟩ := hcl1 c
      have := c1.le c3
      omega
    · simp only [hgt, decide_false, e_fd, e_nck, e_pkt, e_pkf, e_gdtt, e_gdtf, e_gdft, e_gdff, e_ift, e_iff, e_not, e_ln, e_lnT, e_cp, e_cvi, e_ex20, e_ex21, e_ex30, e_ex31, e_ex32, e_add, e_sub, e_mul, e_quo, e_rem, e_and, e_or, e_xor, e_shl, e_shr, e_eql, e_neq, e_lss, e_leq, e_gtr, e_geq, e_beq, e_bne, e_peq1, e_peq2, e_pne1, e_pne2, e_zeq1, e_zeq2, e_zne1, e_zne2, e_feq1, e_fne1, e_feq2, e_fne2, e_seq, e_sne, e_ta1, e_ta2, Nat.zero_add, Nat.add_zero, Bool.not_true, Bool.not_false]
      obtain ⟨j, hj⟩ : ∃ j, lk = j + 1 := ⟨lk - 1, by omega⟩
      have hjn : j < sh.n := by omega
      have e1 : IntKind.u32.wrap (IntKind.u64.wrap (((lk : Nat) : Int) - 1)) = ((j : Nat) : Int) := by
        rw [show ((lk : Nat) : Int) - 1 = ((j : Nat) : Int) by omega, w64 (by omega), w32 (by omega)]
      rw [e1]
      have e2 : ((j : Nat) : Int).tdiv 64 = ((j / 64 : Nat) : Int) := by rw [Int.tdiv_eq_ediv_of_nonneg (by omega)]; omega
      have e3 : ((j : Nat) : Int).tmod 64 = ((j % 64 : Nat) : Int) := by rw [Int.tmod_eq_emod_of_nonneg (by omega)]; omega
      have hq : j / 64 < xs1.length := by rw [hxl1]; omega
      obtain ⟨mb, cap, junk, eo, ev, hcap, hjk, hrow⟩ := Sl.get h1.mks_ (by omega)
      subst eo
      subst ev
      rw [rows_g1] at hrow
      have e6 : IntKind.u32.wrap ((j / 64 : Nat) : Int) = ((j / 64 : Nat) : Int) := w32 (by omega)
      simp only [e2, e3, e6, e_fd, e_nck, e_pkt, e_pkf, e_gdtt, e_gdtf, e_gdft, e_gdff, e_ift, e_iff, e_not, e_ln, e_lnT, e_cp, e_cvi, e_ex20, e_ex21, e_ex30, e_ex31, e_ex32, e_add, e_sub, e_mul, e_quo, e_rem, e_and, e_or, e_xor, e_shl, e_shr, e_eql, e_neq, e_lss, e_leq, e_gtr, e_geq, e_beq, e_bne, e_peq1, e_peq2, e_pne1, e_pne2, e_zeq1, e_zeq2, e_zne1, e_zne2, e_feq1, e_fne1, e_feq2, e_fne2, e_seq, e_sne, e_ta1, e_ta2, Nat.zero_add, Nat.add_zero, Bool.not_true, Bool.not_false]
      refine ⟨by decide, ?_⟩
      have ix : ∀ {R : Value → World → Prop} {w2 : World}, R (P mb (j / 64)) w2 → ixs 1 (.slice (some ⟨mb, 0, none⟩) xs1.length cap) (.int .u32 ((j / 64 : Nat) : Int)) R w2 := by
        intro R w2 hR
        refine ⟨⟨by omega, by omega⟩, ?_⟩
        have e : (((j / 64 : Nat) : Int)).toNat = j / 64 := by omega
        rw [e, add_mk, Nat.mul_one, Nat.zero_add]
        exact hR
      refine ix ?_
      have hget : (xs1.map U64 ++ junk)[j / 64]? = some (U64 (xs1.getD (j / 64) 0)) := by
        rw [List.getElem?_append_left (by simpa using hq), List.getElem?_map, List.getD_eq_getElem?_getD, List.getElem?_eq_getElem hq]; rfl
      refine ld1_r hrow hget ?_
      have hxb : xs1.getD (j / 64) 0 < 18446744073709551616 := by
        rw [List.getD_eq_getElem?_getD, List.getElem?_eq_getElem hq]; exact h1.rng _ (List.getElem_mem hq)
      try simp only [e_fd, e_nck, e_pkt, e_pkf, e_gdtt, e_gdtf, e_gdft, e_gdff, e_ift, e_iff, e_not, e_ln, e_lnT, e_cp, e_cvi, e_ex20, e_ex21, e_ex30, e_ex31, e_ex32, e_add, e_sub, e_mul, e_quo, e_rem, e_and, e_or, e_xor, e_shl, e_shr, e_eql, e_neq, e_lss, e_leq, e_gtr, e_geq, e_beq, e_bne, e_peq1, e_peq2, e_pne1, e_pne2, e_zeq1, e_zeq2, e_zne1, e_zne2, e_feq1, e_fne1, e_feq2, e_fne2, e_seq, e_sne, e_ta1, e_ta2, Nat.zero_add, Nat.add_zero, Bool.not_true, Bool.not_false]
      refine ⟨by decide, ?_⟩
      rw [shrL (n := ((j % 64 : Nat) : Int)) (k := j % 64) rfl (by omega)]
      refine ⟨by omega, ?_⟩
      have hdl : xs1.getD (j / 64) 0 / 2 ^ (j % 64) < 18446744073709551616 := Nat.lt_of_le_of_lt (Nat.div_le_self _ _) hxb
      rw [show (1 : Int) = ((1 : Nat) : Int) from rfl, and64 hdl (by decide)]
      have ebit : bitX xs1 j = decide (xs1.getD (j / 64) 0 / 2 ^ (j % 64) % 2 = 1) := by unfold bitX; rw [Nat.testBit_eq_decide_div_mod_eq]
      have eand : xs1.getD (j / 64) 0 / 2 ^ (j % 64) &&& 1 = xs1.getD (j / 64) 0 / 2 ^ (j % 64) % 2 := Nat.and_one_is_mod _
      rw [eand]
      by_cases hb : bitX xs1 j = true
      · have e4 : (((xs1.getD (j / 64) 0 / 2 ^ (j % 64) % 2 : Nat) : Int) != 0) = true := by
          rw [ebit, decide_eq_true_eq] at hb
          rw [hb]; rfl
        simp only [e4, e_fd, e_nck, e_pkt, e_pkf, e_gdtt, e_gdtf, e_gdft, e_gdff, e_ift, e_iff, e_not, e_ln, e_lnT, e_cp, e_cvi, e_ex20, e_ex21, e_ex30, e_ex31, e_ex32, e_add, e_sub, e_mul, e_quo, e_rem, e_and, e_or, e_xor, e_shl, e_shr, e_eql, e_neq, e_lss, e_leq, e_gtr, e_geq, e_beq, e_bne, e_peq1, e_peq2, e_pne1, e_pne2, e_zeq1, e_zeq2, e_zne1, e_zne2, e_feq1, e_fne1, e_feq2, e_fne2, e_seq, e_sne, e_ta1, e_ta2, Nat.zero_add, Nat.add_zero, Bool.not_true, Bool.not_false]
        refine fin h1 (fun c => ?_)
        exfalso
        obtain ⟨F2, c1, c2, c3, c4, c5⟩ := hcl1 c
        cases F2 with
        | nil => have : lk = 0 := c1; omega
        | cons j2 F2 =>
          have hj2 := c1.1
          have : j2 = j := by omega
          subst this
          rw [c5 j2 hjn] at hb
          simp at hb
      · have hb' : bitX xs1 j = false := by simpa using hb
        have e4 : (((xs1.getD (j / 64) 0 / 2 ^ (j % 64) % 2 : Nat) : Int) != 0) = false := by
          rw [ebit, decide_eq_false_iff_not] at hb'
          have : xs1.getD (j / 64) 0 / 2 ^ (j % 64) % 2 = 0 := by omega
          rw [this]; rfl
        simp only [e4, e_fd, e_nck, e_pkt, e_pkf, e_gdtt, e_gdtf, e_gdft, e_gdff, e_ift, e_iff, e_not, e_ln, e_lnT, e_cp, e_cvi, e_ex20, e_ex21, e_ex30, e_ex31, e_ex32, e_add, e_sub, e_mul, e_quo, e_rem, e_and, e_or, e_xor, e_shl, e_shr, e_eql, e_neq, e_lss, e_leq, e_gtr, e_geq, e_beq, e_bne, e_peq1, e_peq2, e_pne1, e_pne2, e_zeq1, e_zeq2, e_zne1, e_zne2, e_feq1, e_fne1, e_feq2, e_fne2, e_seq, e_sne, e_ta1, e_ta2, Nat.zero_add, Nat.add_zero, Bool.not_true, Bool.not_false]
        refine ⟨by decide, ?_⟩
        refine ix ?_
        refine ld1_r hrow hget ?_
        refine ⟨by decide, ?_⟩
        refine ⟨by omega, ?_⟩
        have e5 : IntKind.u64.wrap (((1 : Nat) : Int) * 2 ^ (min (((j % 64 : Nat) : Int)).toNat IntKind.u64.bits)) = ((2 ^ (j % 64) : Nat) : Int) := by
          have eb : IntKind.u64.bits = 64 := rfl
          have hpow : 2 ^ (j % 64) < 18446744073709551616 := bitN_lt j
          rw [eb, Int.toNat_natCast, Nat.min_eq_left (by omega)]
          have : (((1 : Nat) : Int) * 2 ^ (j % 64)) = ((2 ^ (j % 64) : Nat) : Int) := by simp
          rw [this, w64 hpow]
        have hpow : 2 ^ (j % 64) < 18446744073709551616 := bitN_lt j
        rw [e5, e_or, or64 hxb hpow]
        refine ix ?_
        refine st1_r hrow (by rw [List.length_append, List.length_map]; omega) rfl fun w2 r2 hk2 hz2 => ?_
        have r2' : Row w2 mb 71 ((xs1.set (j / 64) (xs1.getD (j / 64) 0 ||| 2 ^ (j % 64))).map U64 ++ junk) := by
          rw [List.map_set, ← List.set_append_left _ _ (by simpa using hq)]; exact r2
        have h2 : Au w0 w2 ab p sb so M A sh k1 (some mb) (.slice (some ⟨mb, 0, none⟩) xs1.length cap) (xs1.set (j / 64) (xs1.getD (j / 64) 0 ||| 2 ^ (j % 64))) := by
          refine h1.frame (hk2.mono fun b _ (q : b = mb) => by rw [q]) ⟨cap, junk, by rw [List.length_set], by rw [List.length_set]; exact hcap, by rw [List.length_set]; exact hjk, by rw [rows_g1]; exact r2'⟩ (fun b hb => .inl hb) (fun x hx => ?_)
          rcases List.mem_or_eq_of_mem_set hx with q | q
          · exact h1.rng x q
          · rw [q]; exact or64_lt hxb hpow
        try simp only [e_fd, e_nck, e_pkt, e_pkf, e_gdtt, e_gdtf, e_gdft, e_gdff, e_ift, e_iff, e_not, e_ln, e_lnT, e_cp, e_cvi, e_ex20, e_ex21, e_ex30, e_ex31, e_ex32, e_add, e_sub, e_mul, e_quo, e_rem, e_and, e_or, e_xor, e_shl, e_shr, e_eql, e_neq, e_lss, e_leq, e_gtr, e_geq, e_beq, e_bne, e_peq1, e_peq2, e_pne1, e_pne2, e_zeq1, e_zeq2, e_zne1, e_zne2, e_feq1, e_fne1, e_feq2, e_fne2, e_seq, e_sne, e_ta1, e_ta2, Nat.zero_add, Nat.add_zero, Bool.not_true, Bool.not_false]
        have hbk := bk_in hok (t := 0) hjn (by have := hok.bw1; omega)
        refine blockAt_ok h2.shp (by omega) fun w3 hk3 => ?_
        refine (h2.kp' hk3).load (by omega) fun w4 h4 => ?_
        try simp only [e_fd, e_nck, e_pkt, e_pkf, e_gdtt, e_gdtf, e_gdft, e_gdff, e_ift, e_iff, e_not, e_ln, e_lnT, e_cp, e_cvi, e_ex20, e_ex21, e_ex30, e_ex31, e_ex32, e_add, e_sub, e_mul, e_quo, e_rem, e_and, e_or, e_xor, e_shl, e_shr, e_eql, e_neq, e_lss, e_leq, e_gtr, e_geq, e_beq, e_bne, e_peq1, e_peq2, e_pne1, e_pne2, e_zeq1, e_zeq2, e_zne1, e_zne2, e_feq1, e_fne1, e_feq2, e_fne2, e_seq, e_sne, e_ta1, e_ta2, Nat.zero_add, Nat.add_zero, Bool.not_true, Bool.not_false]
        have hdec : cnt0 xs1 sh.n = cnt0 (xs1.set (j / 64) (xs1.getD (j / 64) 0 ||| 2 ^ (j % 64))) sh.n + 1 := by
          unfold cnt0
          refine cntP_one (a := j) (by simp [hb']) (by rw [bitX_set hq]; simp) hjn (fun i hi hne => ?_)
          show (!bitX xs1 i) = !bitX _ i
          rw [bitX_set hq]; simp [hne]
        rw [show ((listed : Nat) : Int) + ((1 : Nat) : Int) = ((listed + 1 : Nat) : Int) by omega, w64 (by omega)]
        refine ⟨n - 1, by omega, k1 + 1, some mb, _, _, listed + 1, A.ws (sh.bk j), by omega, rfl, h4, by rw [List.length_set]; exact hxl1, hA _ (by omega), by omega, fun c => ?_⟩
        obtain ⟨F2, c1, c2, c3, c4, c5⟩ := hcl1 c
        cases F2 with
        | nil => have : lk = 0 := c1; omega
        | cons j2 F2 =>
          have hj2 := c1.1
          have : j2 = j := by omega
          subst this
          have hnd := List.nodup_cons.1 c2
          refine ⟨F2, c1.2, hnd.2, fun i hi => c3 i (List.mem_cons_of_mem _ hi), by simp at c4; omega, fun i hi => ?_⟩
          rw [bitX_set hq, c5 i hi]
          by_cases e : i = j2
          · subst e; simp [hnd.1]
          · simp [e]
end
end Go.Proofs.Qxb6500893aDoor
