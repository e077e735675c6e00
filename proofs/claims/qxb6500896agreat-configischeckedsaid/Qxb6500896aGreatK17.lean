import Derived.Test.Qxb6500896aGreatK16
namespace Go.Proofs.Qxb6500896aGreat
open Go.Sh Go.RowKit
set_option linter.unusedVariables false
set_option linter.unusedSimpArgs false

/-- a line in memory: its ids, its slice, its block -/
structure Lm where
  ids : List Int
  val : Value
  blk : Option Nat
/-- the standby lines in memory -/
structure Li (M : Nat → Prop) (w : World) (n wb : Nat) (lobs : List (Option Nat)) (C : Cfg) (ls : List (List Int)) : Prop where
  ex : ∃ (cl : List Value) (its : List Lm), Row w n 231 (cl ++ [.slice (some ⟨wb, 0, none⟩) ls.length ls.length]) ∧ Cg (Im M w) w cl C ∧ its.map Lm.ids = ls ∧ its.map Lm.blk = lobs ∧ Row w wb 79 (its.map Lm.val) ∧
    (∀ p ∈ its, Sl iC 1 w 3 p.blk p.val p.ids ∧ ∀ b, p.blk = some b → M b) ∧ its.Pairwise (fun p q => ∀ b, p.blk = some b → q.blk ≠ some b)
  mn : M n
  mw : M wb
  lt : ∀ b, M b → b < w.heap.size
  len : ls.length ≤ 1024
  each : ∀ l ∈ ls, l.length ≤ 16777216
abbrev OwnL (n wb : Nat) (lobs : List (Option Nat)) (b : Nat) : Prop := b = n ∨ b = wb ∨ some b ∈ lobs
/-- what an engine holds besides its journal -/
structure Sg where
  now : Int
  rs : List Rec
  ls : List (List Int)
  seq : Int
  tail : Int
  loose : Int
  down : Bool
  sr : Int
  sq : Int
  sg : Int
  ss : Int
  sp : Int
  res : Bool
  rf : List Int
  ent : List Int
/-- where its parts lie -/
structure Me where
  t : Nat
  rob : Option Nat
  n : Nat
  wb : Nat
  lobs : List (Option Nat)
  j : Nat
  lob : Option Nat
  en : Option Nat
def Sg.cells (σ : Sg) (m : Me) (env : Value) : List Value :=
  [I σ.now, P m.t 0, P m.n 0, P m.j 0, I σ.seq, I σ.tail, I σ.loose, .bool σ.down, I σ.sr, I σ.sq, I σ.sg, I σ.ss, I σ.sp, .bool σ.res] ++ (σ.rf.map I ++ [env])
structure En (M : Nat → Prop) (w : World) (e : Nat) (m : Me) (C : Cfg) (σ : Sg) (J : Jr) : Prop where
  ex : ∃ va vt env, Row w e 137 (C.cells va vt ++ σ.cells m env) ∧ Cg (Im M w) w (C.cells va vt) C ∧ Sl bC 1 w 5 m.en env σ.ent ∧ ∀ b, m.en = some b → M b
  tb : Tb M w m.t m.rob C σ.rs
  li : Li M w m.n m.wb m.lobs C σ.ls
  jn : Jn M w m.j m.lob J
  me : M e
  rf : σ.rf.length = 23
abbrev OwnE (e : Nat) (m : Me) (b : Nat) : Prop := b = e ∨ OwnT m.t m.rob b ∨ OwnL m.n m.wb m.lobs b ∨ OwnJ m.j m.lob b ∨ m.en = some b
section
variable {F M M' S : Nat → Prop} {w w' w1 : World} {v rv : Value} {l : List Value} {n wb e : Nat} {lobs : List (Option Nat)} {C : Cfg} {ls : List (List Int)} {K : Value → World → Prop} {m : Me} {σ : Sg} {J : Jr}
theorem Li.ext (h : Li M w n wb lobs C ls) (hx : Ext M M' w w') (hk : Kp S w w') (hS : ∀ b, S b → b < w.heap.size → M b) (hn : ∀ b, OwnL n wb lobs b → ¬ S b) : Li M' w' n wb lobs C ls := by
  obtain ⟨cl, its, r, hc, h1, h2, h3, h4, h5⟩ := h.ex
  refine ⟨⟨cl, its, hk.row r (hn n (.inl rfl)), hc.ext hx hk hS, h1, h2, hk.row h3 (hn wb (.inr (.inl rfl))), fun p hp => ⟨(h4 p hp).1.kp hk (fun b q => hn b (.inr (.inr ?_))), fun b q => hx.sub b ((h4 p hp).2 b q)⟩, h5⟩, hx.sub n h.mn, hx.sub wb h.mw, hx.lt, h.len, h.each⟩
  rw [← h2, ← q]
  exact List.mem_map_of_mem hp
theorem Li.kp' (h : Li M w n wb lobs C ls) (hk : Kp Emp w w') : Li M w' n wb lobs C ls := h.ext (Ext.same h.lt hk) hk (fun _ q => q.elim) (fun _ _ q => q)
theorem Li.own (h : Li M w n wb lobs C ls) {b : Nat} (hb : OwnL n wb lobs b) : M b := by
  rcases hb with rfl | rfl | q
  · exact h.mn
  · exact h.mw
  · obtain ⟨cl, its, r, hc, h1, h2, h3, h4, h5⟩ := h.ex
    rw [← h2] at q
    obtain ⟨p, hp, hb⟩ := List.mem_map.1 q
    exact (h4 p hp).2 b hb
theorem En.lt (h : En M w e m C σ J) : ∀ b, M b → b < w.heap.size := h.tb.lt
theorem En.ext (h : En M w e m C σ J) (hx : Ext M M' w w') (hk : Kp S w w') (hS : ∀ b, S b → b < w.heap.size → M b) (hn : ∀ b, OwnE e m b → ¬ S b) : En M' w' e m C σ J := by
  obtain ⟨va, vt, env, r, hc, hs, hm⟩ := h.ex
  exact ⟨⟨va, vt, env, hk.row r (hn e (.inl rfl)), hc.ext hx hk hS, hs.kp hk fun b q => hn b (.inr (.inr (.inr (.inr q)))), fun b q => hx.sub b (hm b q)⟩, h.tb.ext hx hk hS (fun b q => hn b (.inr (.inl q))), h.li.ext hx hk hS (fun b q => hn b (.inr (.inr (.inl q)))), h.jn.ext hx hk hS (fun b q => hn b (.inr (.inr (.inr (.inl q))))), hx.sub e h.me, h.rf⟩
theorem En.kp' (h : En M w e m C σ J) (hk : Kp Emp w w') : En M w' e m C σ J := h.ext (Ext.same h.lt hk) hk (fun _ q => q.elim) (fun _ _ q => q)
theorem En.own (h : En M w e m C σ J) {b : Nat} (hb : OwnE e m b) : M b := by
  rcases hb with rfl | q | q | q | q
  · exact h.me
  · exact h.tb.own q
  · exact h.li.own q
  · exact h.jn.own q
  · obtain ⟨va, vt, env, r, hc, hs, hm⟩ := h.ex
    exact hm b q
theorem fill14 {l z : List Value} {x : List (Option (Nat × Nat) × Value)} (hl : l.length = 14) (hz : 14 ≤ z.length) : fillL z ((some (0, 14), .agg l.toArray) :: x) = fillL (l ++ z.drop 14) x := by
  rw [fillL_agg z 0 14 l x hl (by omega), List.take_zero, List.nil_append, Nat.zero_add]
/-- an empty table -/
theorem newTable_ok (hc : Cg (Im M w) w l C) (hM : ∀ b, M b → b < w.heap.size) (hK : ∀ w' M' t, Ext M M' w w' → Kp Emp w w' → w.heap.size ≤ t → Tb M' w' t none C [] → K (P t 0) w') : cl Tryz.prog 170 #[.agg l.toArray] K w := by
  have hcl := hc.len
  apply c170
  unfold s170_p1
  refine nw_r fun w1 r1 hk1 hz1 => ?_
  replace r1 : Row w1 w.heap.size 34 l := r1
  refine ldn_r r1 (by omega) ?_
  have el : (l.drop 0).take 14 = l := by rw [List.drop_zero, List.take_of_length_le (by omega)]
  rw [el]
  refine bdq_r (l := l ++ [nilS]) (by rw [fill14 hcl (by simp)]; rfl) ?_
  refine nw_r fun w2 r2 hk2 hz2 => ?_
  have k2 : Kp Emp w w2 := hk1.trans hk2
  have hx : Ext M (fun b => M b ∨ b = w1.heap.size) w w2 := Ext.add hM k2 (by omega) (by omega)
  refine hK w2 _ w1.heap.size hx k2 (by omega) ⟨⟨l, nilS, r2, hc.ext hx k2 (fun _ q => q.elim), [], rfl, ⟨rfl, rfl⟩, (fun b e => by cases e), (fun p hp => by cases hp)⟩, .inr rfl, hx.lt, by simp⟩
/-- empty lines -/
theorem newLines_ok (hc : Cg (Im M w) w l C) (hC : Cok C) (hM : ∀ b, M b → b < w.heap.size) (hK : ∀ w' M' n wb lobs, Ext M M' w w' → Kp Emp w w' → (∀ b, OwnL n wb lobs b → w.heap.size ≤ b) → Li M' w' n wb lobs C (List.replicate C.ats.length []) → K (P n 0) w') : cl Tryz.prog 171 #[.agg l.toArray] K w := by
  have hcl := hc.len
  have hca := hC.a
  have hc0 := hc
  obtain ⟨va, vt, rfl, ha, _⟩ := hc.ex
  apply c171
  unfold s171_p3
  refine nw_r fun w1 r1 hk1 hz1 => ?_
  replace r1 : Row w1 w.heap.size 34 (C.cells va vt) := r1
  unfold s171_p2 s171_p2_d
  have kd : Kp Emp w1 (drw w1) := kp_drw
  have szd : (drw w1).heap.size = w1.heap.size := rfl
  generalize drw w1 = w2 at kd szd ⊢
  have r2 := kd.row' r1
  refine ldn_r r2 (show 0 + 14 ≤ 14 by decide) ?_
  try simp only [e_fd, e_nck, e_pkt, e_pkf, e_gdtt, e_gdtf, e_gdft, e_gdff, e_ift, e_iff, e_not, e_ln, e_lnT, e_cp, e_cvi, e_ex20, e_ex21, e_ex30, e_ex31, e_ex32, e_add, e_sub, e_mul, e_quo, e_rem, e_and, e_or, e_xor, e_shl, e_shr, e_eql, e_neq, e_lss, e_leq, e_gtr, e_geq, e_beq, e_bne, e_peq1, e_peq2, e_pne1, e_pne2, e_zeq1, e_zeq2, e_zne1, e_zne2, e_feq1, e_fne1, e_feq2, e_fne2, e_seq, e_sne, e_ta1, e_ta2, Nat.zero_add, Nat.add_zero, Bool.not_true, Bool.not_false]
  refine ld1_r (v := va) r2 rfl ?_
  refine ha.ln ?_
  refine mks_r (n := C.ats.length) (by omega) (by omega) fun w3 r3 hk3 hz3 => ⟨hk3.below', ?_⟩
  refine bdq_r (l := C.cells va vt ++ [.slice (some ⟨w2.heap.size, 0, none⟩) C.ats.length C.ats.length]) rfl ?_
  refine nw_r fun w4 r4 hk4 hz4 => ?_
  unfold s171_p1
  have k4 : Kp Emp w w4 := ((hk1.trans kd).trans hk3).trans hk4
  have hx1 : Ext M (fun b => M b ∨ b = w2.heap.size) w w4 := Ext.add hM k4 (by omega) (by omega)
  have hx2 : Ext (fun b => M b ∨ b = w2.heap.size) (fun b => (M b ∨ b = w2.heap.size) ∨ b = w3.heap.size) w w4 := ⟨fun _ q => .inl q, fun b q => q.elim .inl (fun e => .inr (by omega)), k4.size, fun b q => q.elim (fun q => hx1.lt b q) (fun e => by omega)⟩
  have hx : Ext M (fun b => (M b ∨ b = w2.heap.size) ∨ b = w3.heap.size) w w4 := ⟨fun b q => .inl (.inl q), fun b q => by
    rcases q with (q | q) | q
    · exact .inl q
    · exact .inr (by omega)
    · exact .inr (by omega), k4.size, hx2.lt⟩
  refine hK w4 _ w3.heap.size w2.heap.size (List.replicate C.ats.length none) hx k4 (fun b q => ?_) ⟨⟨C.cells va vt, List.replicate C.ats.length ⟨[], nilS, none⟩, by rw [List.length_replicate]; exact r4, hc0.ext hx k4 (fun _ q => q.elim), by rw [List.map_replicate], by rw [List.map_replicate], by rw [List.map_replicate]; exact hk4.row' r3, fun p hp => ?_, ?_⟩, .inr rfl, .inl (.inr rfl), hx.lt, by rw [List.length_replicate]; omega, fun l hl => ?_⟩
  · rcases q with q | q | q
    · omega
    · omega
    · have := List.eq_of_mem_replicate q
      cases this
  · have := List.eq_of_mem_replicate hp
    subst this
    exact ⟨⟨rfl, rfl⟩, fun b e => by cases e⟩
  · refine List.pairwise_replicate.2 (.inr fun b e => by cases e)
  · have := List.eq_of_mem_replicate hl
    subst this
    simp
def sg0 (C : Cfg) : Sg := ⟨0, [], List.replicate C.ats.length [], 0, 0, 0, false, 0, 0, 0, 0, 0, false, List.replicate 23 0, []⟩
theorem blank_ok {j : Nat} {lob : Option Nat} (hc : Cg F w l C) (hC : Cok C) (hj : Jn M w j lob J) (hK : ∀ w' M' e m, Ext M M' w w' → Kp Emp w w' → m.j = j → m.lob = lob → (∀ b, OwnE e m b → OwnJ j lob b ∨ w.heap.size ≤ b) → En M' w' e m C (sg0 C) J → K (P e 0) w') : cl Tryz.prog 121 #[.agg l.toArray, P j 0] K w := by
  have hcl := hc.len
  apply c121
  unfold s121_p3
  refine nw_r fun w1 r1 hk1 hz1 => ?_
  replace r1 : Row w1 w.heap.size 34 l := r1
  refine ldn_r r1 (by omega) ?_
  have el : (l.drop 0).take 14 = l := by rw [List.drop_zero, List.take_of_length_le (by omega)]
  rw [el]
  refine copyConfig_ok (hc.kp' hk1) hC fun w2 l2 hk2 hc2 => ?_
  have hcl2 := hc2.len
  refine stn_r (cs := l2) (hk2.row' r1) hcl2 (by omega) hc2.sc fun w3 r3 hk3 hz3 => ?_
  have e3 : List.take 0 l ++ (l2 ++ List.drop (0 + 14) l) = l2 := by rw [List.take_zero, List.nil_append, List.drop_of_length_le (by omega), List.append_nil]
  rw [e3] at r3
  have k3 : Kp Emp w w3 := (hk1.trans hk2).then hk3 fun k hk (q : k = _) => by omega
  unfold s121_p2 s121_p2_d
  have kd : Kp Emp w3 (drw w3) := kp_drw
  have szd : (drw w3).heap.size = w3.heap.size := rfl
  generalize drw w3 = w4 at kd szd ⊢
  have r4 := kd.row' r3
  have k4 := k3.trans kd
  have sz4 := k4.size
  have sz2 := hk2.size
  have hM4 : ∀ b, M b → b < w4.heap.size := fun b q => by have := hj.lt b q; omega
  have hc4 : Cg (Im M w4) w4 l2 C := ((hc2.kp hk3 (fun b hb (q : b = _) => by have := hb.1; omega)).kp' kd).mono fun b hb => ⟨fun q => by have := hj.lt b q; have := hb.1; omega, by have := hb.2; omega⟩
  have hj4 := hj.kp' k4
  refine ldn_r r4 (by omega) ?_
  refine ldn_r r4 (by omega) ?_
  refine ldn_r r4 (by omega) ?_
  have el2 : (l2.drop 0).take 14 = l2 := by rw [List.drop_zero, List.take_of_length_le (by omega)]
  rw [el2]
  refine newTable_ok hc4 hM4 fun w5 M5 t hx5 hk5 ht ht5 => ⟨hk5.below', ?_⟩
  refine newLines_ok (hc4.ext hx5 hk5 (fun _ q => q.elim)) hC ht5.lt fun w6 M6 n wb lobs hx6 hk6 ho6 hl6 => ⟨(hk5.trans hk6).below', ?_⟩
  obtain ⟨va, vt, rfl, _⟩ := hc4.ex
  refine bdq_r (l := C.cells va vt ++ (sg0 C).cells ⟨t, none, n, wb, lobs, j, lob, none⟩ nilS) rfl ?_
  refine nw_r fun w7 r7 hk7 hz7 => ?_
  unfold s121_p1
  have sz5 := hk5.size
  have sz6 := hk6.size
  have k7 : Kp Emp w w7 := ((k4.trans hk5).trans hk6).trans hk7
  have hx67 : Ext M6 (fun b => M6 b ∨ b = w6.heap.size) w6 w7 := Ext.add hl6.lt hk7 (Nat.le_refl _) (by omega)
  have hx46 := hx5.trans hx6
  have hx47 := hx46.trans hx67
  have hx57 := hx6.trans hx67
  have hx : Ext M (fun b => M6 b ∨ b = w6.heap.size) w w7 := (Ext.same hj.lt k4).trans hx47
  have k47 := (hk5.trans hk6).trans hk7
  have k57 := hk6.trans hk7
  refine hK w7 _ w6.heap.size ⟨t, none, n, wb, lobs, j, lob, none⟩ hx k7 rfl rfl (fun b q => ?_) ⟨⟨va, vt, nilS, r7, hc4.ext hx47 k47 (fun _ q => q.elim), ⟨rfl, rfl⟩, (fun b e => by cases e)⟩, ht5.ext hx57 k57 (fun _ q => q.elim) (fun _ _ q => q), hl6.ext hx67 hk7 (fun _ q => q.elim) (fun _ _ q => q), hj4.ext hx47 k47 (fun _ q => q.elim) (fun _ _ q => q), .inr rfl, rfl⟩
  rcases q with q | q | q | q | q
  · exact .inr (by omega)
  · rcases q with q | q
    · exact .inr (by have : b = t := q; omega)
    · cases q
  · exact .inr (by have := ho6 b q; omega)
  · exact .inl q
  · cases q
end
end Go.Proofs.Qxb6500896aGreat
