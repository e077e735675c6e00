import Derived.Test.Qxb6500896aGreatM41
namespace Go.Proofs.Qxb6500896aGreat
open Go.Sh Go.RowKit
set_option linter.unusedVariables false
set_option linter.unusedSimpArgs false

/-! ### a connection -/
section
variable {O G F S V V' N M : Nat → Prop} {W w w' w0 w1 : World} {r e m c pos : Nat} {v v1 v2 qv x bv' : Value} {l : List Value} {K : Value → World → Prop} {B1 : List Value → World → Prop} {bs d R : List Int} {bss Bd : List (List Int)} {ob ob2 : Option Nat} {vals : List Value} {skip : Int} {br : Bool}
/-- byte strings that wait to be handled -/
structure Bqs (F : Nat → Prop) (w0 w : World) (ob : Option Nat) (qv : Value) (vals : List Value) (bss : List (List Int)) : Prop where
  sl : Sl one 1 w 37 ob qv vals
  ln : vals.length = bss.length
  at_ : ∀ i (h1 : i < vals.length) (h2 : i < bss.length), Ar bC 1 F w0 vals[i] bss[i]
  by_ : ∀ bs ∈ bss, By bs
theorem Bqs.nil : Bqs F w0 w none nilS [] [] := ⟨⟨rfl, rfl⟩, rfl, fun i h => (by cases h), fun bs h => (by cases h)⟩
theorem Bqs.kp (h : Bqs F w0 w ob qv vals bss) (hk : Kp S w w') (hS : ∀ b, ob = some b → ¬ S b) : Bqs F w0 w' ob qv vals bss := ⟨h.sl.kp hk hS, h.ln, h.at_, h.by_⟩
theorem Bqs.rwb (h : Bqs F w0 w ob qv vals bss) (hk : Kp S w0 w) (hS : ∀ b, F b → ¬ S b) (hn : bss.length ≤ 200000) : Rwb (fun b => ob = some b ∨ F b) w qv bss := by
  have hl := h.ln
  exact ⟨vals, h.sl.ar one_len (by omega) fun b e => .inl e, h.ln, fun i a b => ((h.at_ i a b).kp hk hS).mono fun c q => .inr q⟩
theorem Bqs.put {n : Nat} (h : Bqs F w0 w ob qv vals bss) (hx : Ar bC 1 F w0 x bs) (hb : By bs) (hn : bss.length ≤ 200000) (rx : Row w n 37 [x])
    (hK : ∀ w' v' ob', Bqs F w0 w' ob' v' (vals ++ [x]) (bss ++ [bs]) → Kp (fun b => ob = some b) w w' → (ob' = ob ∨ ∃ b, ob' = some b ∧ w.heap.size ≤ b) → K v' w') :
    apq 37 [nilS] 24 qv (.slice (some ⟨n, 0, none⟩) 1 1) K w := by
  have hln := h.ln
  have hsc := hx.scal
  have sl2 : Sl one 1 w 37 (some n) (.slice (some ⟨n, 0, none⟩) 1 1) [x] := ⟨1, [], rfl, Nat.le_refl _, rfl, by rw [List.append_nil]; exact rx⟩
  refine Sl.app2 one_len rfl (fun y hy => by rw [List.mem_singleton.1 hy]; unfold one; simp only [List.all_cons, List.all_nil, hsc]; rfl) h.sl sl2 (by simp only [List.length_singleton]; omega) (by simp only [List.length_singleton]; omega) fun w1 v1 ob1 sl1 hk1 ho1 => ?_
  refine hK w1 v1 ob1 ⟨sl1, by rw [List.length_append, List.length_append, h.ln]; rfl, fun i h1 h2 => ?_, fun y hy => ?_⟩ hk1 ho1
  · rw [List.length_append] at h1 h2
    simp only [List.length_singleton] at h1 h2
    by_cases hi : i < vals.length
    · have e1 : (vals ++ [x])[i] = vals[i] := List.getElem_append_left hi
      have e2 : (bss ++ [bs])[i] = bss[i]'(by omega) := List.getElem_append_left (by omega)
      rw [e1, e2]
      exact h.at_ i hi (by omega)
    · have e1 : (vals ++ [x])[i] = x := by rw [List.getElem_append_right (by omega)]; simp only [show i - vals.length = 0 by omega, List.getElem_cons_zero]
      have e2 : (bss ++ [bs])[i] = bs := by rw [List.getElem_append_right (by omega)]; simp only [show i - bss.length = 0 by omega, List.getElem_cons_zero]
      rw [e1, e2]
      exact hx
  · rcases List.mem_append.1 hy with q | q
    · exact h.by_ y q
    · rw [List.mem_singleton.1 q]; exact hb
/-- one more -/
theorem Bqs.add (h : Bqs F w0 w ob qv vals bss) (hx : Ar bC 1 F w0 x bs) (hb : By bs) (hn : bss.length ≤ 200000)
    (hK : ∀ w' v' ob', Bqs F w0 w' ob' v' (vals ++ [x]) (bss ++ [bs]) → Kp (fun b => ob = some b) w w' → (ob' = ob ∨ ∃ b, ob' = some b ∧ w.heap.size ≤ b) → K v' w') :
    bsq 37 [nilS] 1 [(some (0, 1), x)] (fun t w => apq 37 [nilS] 24 qv t K w) w := by
  refine bsq_r (l := [x]) (fill_one hx.scal) fun w1 r1 hk1 hz1 => ?_
  refine (h.kp hk1 fun _ _ q => q).put hx hb hn r1 fun w2 v2 ob2 q2 hk2 ho2 => ?_
  refine hK w2 v2 ob2 q2 (hk1.none.trans hk2) (ho2.imp id fun ⟨b, a, q⟩ => ⟨b, a, by omega⟩)
structure Cn (w : World) (c e : Nat) (ob : Option Nat) (bv' : Value) (d : List Int) (skip : Int) (br : Bool) : Prop where
  row : Row w c 174 [P e 0, bv', I skip, .bool br]
  sl : Sl bC 1 w 5 ob bv' d
theorem Cn.ne (h : Cn w c e ob bv' d skip br) : ∀ b, ob = some b → b ≠ c := fun b hb q => h.sl.ne h.row (by decide) (q ▸ hb)
theorem Cn.kp (h : Cn w c e ob bv' d skip br) (hk : Kp S w w') (h1 : ¬ S c) (h2 : ∀ b, ob = some b → ¬ S b) : Cn w' c e ob bv' d skip br := ⟨hk.row h.row h1, h.sl.kp hk h2⟩
/-- a connection is split into frames: how far -/
structure SI (w w' : World) (c e : Nat) (ob : Option Nat) (bv' : Value) (d R : List Int) (pos : Nat) (qv : Value) (skip : Int) (Bd : List (List Int)) : Prop where
  cn : Cn w' c e ob bv' d skip false
  k : Kp (fun b => b = c) w w'
  q : ∃ ob2 vals, Bqs (fun b => ob = some b) w w' ob2 qv vals (Bd.map nb) ∧ ∀ b, ob2 = some b → w.heap.size ≤ b
  le : pos ≤ d.length
  sp : ∃ R', Sp R Bd R' (d.drop pos) skip
  n : Bd.length ≤ pos
abbrev SpK (w : World) (c e : Nat) (ob : Option Nat) (bv' : Value) (d R : List Int) (K : Value → World → Prop) : Prop := ∀ w' qv ob2 vals Bd R' (n : Nat) skip' br, n ≤ d.length → Cn w' c e ob bv' d skip' br → Bqs (fun b => ob = some b) w w' ob2 qv vals (Bd.map nb) → (∀ b, ob2 = some b → w.heap.size ≤ b) → Kp (fun b => b = c) w w' → Bd.length ≤ d.length + 1 → ((br = false ∧ Fr R Bd R' false ∧ VR R' (d.drop n) skip' ∧ Wt (d.drop n) skip') ∨ (br = true ∧ Fr R Bd [] true ∧ d.drop n = [])) → K (.tuple #[qv, I (n : Nat)]) w'
theorem map_nb {b : List Int} : Bd.map nb ++ [nb b] = (Bd ++ [b]).map nb := by rw [List.map_append]; rfl
set_option maxHeartbeats 2000000 in
theorem sp_10 (cl0 : c < w.heap.size) (a0 : Ar bC 1 (fun b => ob = some b) w bv' d) (hb : By d) (hl : d.length ≤ 100000) (s : SI w w' c e ob bv' d R pos qv 0 Bd)
    (hB : ∀ w'' pos' qv' skip' Bd', pos < pos' → SI w w'' c e ob bv' d R pos' qv' skip' Bd' → B1 [P c 0, qv', I (pos' : Nat)] w'')
    (hK : SpK w c e ob bv' d R K) : s137_p10 K B1 (P c 0) qv (I (pos : Nat)) w' := by
  have hle := s.le
  have hn := s.n
  obtain ⟨ob2, vals, q, hob2⟩ := s.q
  obtain ⟨R', sp⟩ := s.sp
  unfold s137_p10
  refine nk0 (fdp (ld1_r (v := bv') s.cn.row rfl ?_))
  have a1 : Ar bC 1 (fun b => ob = some b) w' bv' d := s.cn.sl.ar bC_len (by omega) fun b e => e
  refine a1.sub (lo := pos) (hi := d.length) s.le (Nat.le_refl _) (lov := some (I (pos : Nat))) (hiv := none) rfl (fun a c e => rfl) fun u a2 => ?_
  have hdl : (d.drop pos).length = d.length - pos := List.length_drop
  rw [List.take_of_length_le (by omega)] at a2
  refine scanN_ok a2 (hb.drop pos) ?_
  simp only [ex3_0, ex3_1, ex3_2]
  have hv := scan_v (d.drop pos)
  unfold s137_p9
  simp only [e_eql]
  have hbm : ∀ b ∈ Bd.map nb, By b := q.by_
  rcases scan_st (s := d.drop pos) with h0 | h1 | h2
  · have e1 : ((((scan (d.drop pos)).2.2 : Nat) : Int) == 1) = false := by rw [h0]; rfl
    have e2 : ((((scan (d.drop pos)).2.2 : Nat) : Int) == 2) = false := by rw [h0]; rfl
    have sb := scan_b h0
    have s9 := scan_9 h0
    unfold s137_p8
    simp only [e1, e_iff]
    unfold s137_p7
    simp only [e_eql, e2]
    unfold s137_p6
    simp only [e_iff]
    unfold s137_p5
    have ew : IntKind.i64.wrap (((pos : Nat) : Int) + (((scan (d.drop pos)).2.1 : Nat) : Int)) = ((pos + (scan (d.drop pos)).2.1 : Nat) : Int) := by
      rw [wrap64_id (by omega) (by omega)]; omega
    by_cases h172 : 172 < (scan (d.drop pos)).1
    · have e3 : decide ((172 : Int) < (((scan (d.drop pos)).1 : Nat) : Int)) = true := decide_eq_true (by omega)
      simp only [e_gtr, e3, e_ift, e_add, ew]
      refine nk0 (fdp (st1_r s.cn.row (show 2 < 4 by decide) rfl fun w1 r1 hk1 hz1 => ?_))
      replace r1 : Row w1 c 174 [P e 0, bv', I (((scan (d.drop pos)).1 : Nat) : Int), .bool false] := r1
      have hcs := s.cn.ne
      have hkz := s.k.size
      refine hB w1 _ _ _ Bd (by omega) ⟨⟨r1, s.cn.sl.kp hk1 fun b h1 (h2 : b = c) => hcs b h1 h2⟩, s.k.trans hk1, ⟨ob2, vals, q.kp hk1 fun b h1 (h2 : b = c) => ?_, hob2⟩, by omega, ⟨R', ?_⟩, by omega⟩
      · have := hob2 b h1
        omega
      · have := sp.long h0 h172
        rw [List.drop_drop] at this
        exact this
    · have e3 : decide ((172 : Int) < (((scan (d.drop pos)).1 : Nat) : Int)) = false := decide_eq_false (by omega)
      simp only [e_gtr, e3, e_iff]
      refine nk0 (fdp (ld1_r (v := bv') s.cn.row rfl ?_))
      refine s.cn.sl.ln ?_
      have ew1 : IntKind.i64.wrap (((d.length : Nat) : Int) - ((pos : Nat) : Int)) = ((d.length : Nat) : Int) - ((pos : Nat) : Int) := wrap64_id (by omega) (by omega)
      have ew2 : IntKind.i64.wrap (((d.length : Nat) : Int) - ((pos : Nat) : Int) - (((scan (d.drop pos)).2.1 : Nat) : Int)) = ((d.length : Nat) : Int) - ((pos : Nat) : Int) - (((scan (d.drop pos)).2.1 : Nat) : Int) := wrap64_id (by omega) (by omega)
      simp only [e_sub, ew1, ew2, e_gtr]
      by_cases hp : d.length < pos + (scan (d.drop pos)).2.1 + (scan (d.drop pos)).1
      · have e4 : decide (((d.length : Nat) : Int) - ((pos : Nat) : Int) - (((scan (d.drop pos)).2.1 : Nat) : Int) < (((scan (d.drop pos)).1 : Nat) : Int)) = true := decide_eq_true (by omega)
        simp only [e4, e_ift]
        obtain ⟨f1, f2⟩ := sp.stop (.inr ⟨h0, by omega⟩)
        exact hK _ _ ob2 vals Bd _ pos 0 false s.le s.cn q hob2 s.k (by omega) (.inl ⟨rfl, f1, f2, .inl ⟨rfl, by omega⟩⟩)
      · have e4 : decide (((d.length : Nat) : Int) - ((pos : Nat) : Int) - (((scan (d.drop pos)).2.1 : Nat) : Int) < (((scan (d.drop pos)).1 : Nat) : Int)) = false := decide_eq_false (by omega)
        simp only [e4, e_iff, e_add, ew]
        refine nk0 (fdp (ld1_r (v := bv') s.cn.row rfl ?_))
        have ew3 : IntKind.i64.wrap (((pos + (scan (d.drop pos)).2.1 : Nat) : Int) + (((scan (d.drop pos)).1 : Nat) : Int)) = ((pos + (scan (d.drop pos)).2.1 + (scan (d.drop pos)).1 : Nat) : Int) := by
          rw [wrap64_id (by omega) (by omega)]; omega
        simp only [e_add, ew3]
        refine a0.sub (lo := pos + (scan (d.drop pos)).2.1) (hi := pos + (scan (d.drop pos)).2.1 + (scan (d.drop pos)).1) (by omega) (by omega) (lov := some (I _)) (hiv := some (I _)) rfl (fun a c e => rfl) fun u3 a3 => ?_
        rw [Nat.add_sub_cancel_left, ← List.drop_drop] at a3
        have enb : nb ((List.drop (scan (d.drop pos)).2.1 (d.drop pos)).take (scan (d.drop pos)).1) = (List.drop (scan (d.drop pos)).2.1 (d.drop pos)).take (scan (d.drop pos)).1 := by
          unfold nb
          rw [if_neg]
          rw [List.length_take]
          omega
        rw [← enb] at a3
        refine q.add a3 (by rw [enb]; exact ((hb.drop _).drop _).take _) (by rw [List.length_map]; omega) fun w1 v1 ob1 q1 hk1 ho1 => ?_
        rw [map_nb] at q1
        have hkz := s.k.size
        have hcw : ∀ b, ob2 = some b → b ≠ c := fun b h1 h2 => by have := hob2 b h1; omega
        refine hB w1 _ _ 0 _ (by omega) ⟨s.cn.kp hk1 (fun h1 => hcw c h1 rfl) fun b h1 h2 => ?_, s.k.then hk1 fun b h1 h2 => ?_, ⟨ob1, _, q1, fun b h1 => ?_⟩, by omega, ⟨d.drop (pos + (scan (d.drop pos)).2.1 + (scan (d.drop pos)).1), ?_⟩, by rw [List.length_append, List.length_singleton]; omega⟩
        · obtain ⟨l, hl⟩ := s.cn.sl.row h1
          exact q.sl.ne hl (by decide) h2
        · have := hob2 b h2
          omega
        · rcases ho1 with h2 | ⟨b', h2, h3⟩
          · exact hob2 b (by rw [← h2]; exact h1)
          · rw [h2] at h1
            have := Option.some.inj h1
            omega
        · have := sp.frame h0 (by omega)
          rw [show pos + (scan (d.drop pos)).2.1 + (scan (d.drop pos)).1 = pos + ((scan (d.drop pos)).2.1 + (scan (d.drop pos)).1) by omega, ← List.drop_drop]
          exact this
  · have e1 : ((((scan (d.drop pos)).2.2 : Nat) : Int) == 1) = true := by rw [h1]; rfl
    unfold s137_p8
    simp only [e1, e_ift]
    unfold s137_p1
    have s9 := scan_short h1
    obtain ⟨f1, f2⟩ := sp.stop (.inl h1)
    exact hK _ _ ob2 vals Bd _ pos 0 false s.le s.cn q hob2 s.k (by omega) (.inl ⟨rfl, f1, f2, .inl ⟨rfl, by omega⟩⟩)
  · have e1 : ((((scan (d.drop pos)).2.2 : Nat) : Int) == 1) = false := by rw [h2]; rfl
    have e2 : ((((scan (d.drop pos)).2.2 : Nat) : Int) == 2) = true := by rw [h2]; rfl
    unfold s137_p8
    simp only [e1, e_iff]
    unfold s137_p7
    simp only [e_eql, e2]
    unfold s137_p6
    simp only [e_ift]
    unfold s137_p4
    refine nk0 (fdp (st1_r s.cn.row (show 3 < 4 by decide) rfl fun w1 r1 hk1 hz1 => ?_))
    replace r1 : Row w1 c 174 [P e 0, bv', I 0, .bool true] := r1
    have hcs := s.cn.ne
    have hkz := s.k.size
    have hcw : ∀ b, ob2 = some b → b ≠ c := fun b h1 h2 => by have := hob2 b h1; omega
    have cn1 : Cn w1 c e ob bv' d 0 true := ⟨r1, s.cn.sl.kp hk1 fun b h1 (h2 : b = c) => hcs b h1 h2⟩
    have q1 := q.kp hk1 fun b h1 (h2 : b = c) => hcw b h1 h2
    have k1 := s.k.trans hk1
    unfold s137_p3
    have kd : Kp Emp w1 (drw w1) := kp_drw
    generalize drw w1 = w2 at kd ⊢
    have cn2 := cn1.kp kd (fun q => q) fun _ _ q => q
    have q2 := q1.kp kd fun _ _ q => q
    have k2 := k1.then kd fun b _ q => q.elim
    refine ⟨fun w' => Row w' c 174 [P e 0, bv', I 0, .bool true], cn2.row, ?_⟩
    unfold s137_p3_d
    refine nk0 (fdp (qw_i (v := bv') (fun w' hJ => ld1_r hJ rfl ⟨rfl, rfl⟩) ?_))
    refine cn2.sl.ln ?_
    have ax : Ar bC 1 (fun b => ob = some b) w nilS (nb []) := Ar.nil
    have fin : ∀ {w3 : World} {n : Nat}, Row w3 n 37 [nilS] → Kp Emp w2 w3 → apq 37 [nilS] 24 qv (.slice (some ⟨n, 0, none⟩) 1 1) (fun t94 w => Row w c 174 [P e 0, bv', I 0, .bool true] ∧ Row w c 174 [P e 0, bv', I 0, .bool true] ∧ s137_p2 K B1 t94 (I (d.length : Nat)) w) w3 := fun {w3 n} r3 hk3 => by
      have cn3 := cn2.kp hk3 (fun q => q) fun _ _ q => q
      have k3 := k2.then hk3 fun b _ q => q.elim
      refine (q2.kp hk3 fun _ _ q => q).put ax By.nil (by rw [List.length_map]; omega) r3 fun w4 v4 ob4 q4 hk4 ho4 => ?_
      rw [map_nb] at q4
      have hz3 := k3.size
      have cn4 : Cn w4 c e ob bv' d 0 true := cn3.kp hk4 (fun h1 => hcw c h1 rfl) fun b h1 h2 => by
        obtain ⟨l, hl⟩ := s.cn.sl.row h1
        exact q.sl.ne hl (by decide) h2
      refine ⟨cn4.row, cn4.row, ?_⟩
      unfold s137_p2
      refine hK _ _ ob4 _ (Bd ++ [[]]) [] d.length 0 true (Nat.le_refl _) cn4 q4 (fun b h1 => ?_) (k3.then hk4 fun b h1 h2 => ?_) (by rw [List.length_append, List.length_singleton]; omega) (.inr ⟨rfl, sp.bad h2, List.drop_length⟩)
      · rcases ho4 with h2 | ⟨b', h2, h3⟩
        · exact hob2 b (by rw [← h2]; exact h1)
        · rw [h2] at h1
          have := Option.some.inj h1
          omega
      · have := hob2 b h2
        omega
    refine ⟨⟨cn2.row, ?_⟩, ?_⟩
    · refine bsq_r (l := [nilS]) rfl fun w3 r3 hk3 hz3 => ?_
      exact ⟨hk3.row' cn2.row, fin r3 hk3⟩
    · refine bsq_r (l := [nilS]) rfl fun w3 r3 hk3 hz3 => ?_
      exact ⟨hk3.row' cn2.row, hk3.row' cn2.row, fin r3 hk3⟩
theorem VR.sk (h : VR R d skip) : 0 ≤ skip ∧ skip ≤ 9223372036854775807 := by
  rcases h with ⟨h, _⟩ | ⟨a, hh, b, c1, c2, c3, c4⟩
  · rw [h]; exact ⟨by decide, by decide⟩
  · have := scan_v hh
    exact ⟨by omega, by omega⟩
set_option maxHeartbeats 2000000 in
/-- a long frame has passed: it is put as an empty one -/
theorem sp_past (cl0 : c < w.heap.size) (a0 : Ar bC 1 (fun b => ob = some b) w bv' d) (hb : By d) (hl : d.length ≤ 100000) (s : SI w w0 c e ob bv' d R pos qv skip Bd) (h0 : 0 < skip) (h1 : skip ≤ ((d.length : Nat) : Int) - ((pos : Nat) : Int)) (cn : Cn w' c e ob bv' d 0 false) (hk : Kp (fun b => b = c) w0 w') {p' : Int} (hp : p' = ((pos + skip.toNat : Nat) : Int))
    (hB : ∀ w'' pos' qv' skip' Bd', pos < pos' → SI w w'' c e ob bv' d R pos' qv' skip' Bd' → B1 [P c 0, qv', I (pos' : Nat)] w'')
    (hK : SpK w c e ob bv' d R K) : bsq 37 [nilS] 1 [(some (0, 1), nilS)] (fun t50 w => apq 37 [nilS] 24 qv t50 (fun t51 w => s137_p10 K B1 (P c 0) t51 (I p') w) w) w' := by
  subst hp
  obtain ⟨ob2, vals, q, hob2⟩ := s.q
  obtain ⟨R', sp⟩ := s.sp
  have hle := s.le
  have hn := s.n
  have hdl : (d.drop pos).length = d.length - pos := List.length_drop
  have hkz := s.k.size
  have hcw : ∀ b, ob2 = some b → b ≠ c := fun b h1 h2 => by have := hob2 b h1; omega
  have ax : ∀ {y : List Int}, nb y = [] → Ar bC 1 (fun b => ob = some b) w nilS (nb y) := fun hy => by rw [hy]; exact Ar.nil
  obtain ⟨y, hy, sp'⟩ := sp.past h0 (by omega)
  refine (q.kp hk fun b h1 (h2 : b = c) => hcw b h1 h2).add (ax hy) (by rw [hy]; exact By.nil) (by rw [List.length_map]; omega) fun w1 v1 ob1 q1 hk1 ho1 => ?_
  rw [map_nb] at q1
  have hkz2 := hk.size
  refine sp_10 cl0 a0 hb hl ⟨cn.kp hk1 (fun h1 => hcw c h1 rfl) fun b h1 h2 => ?_, (s.k.trans hk).then hk1 fun b h1 h2 => ?_, ⟨ob1, _, q1, fun b h1 => ?_⟩, by omega, ⟨_, by rw [← List.drop_drop]; exact sp'⟩, by rw [List.length_append, List.length_singleton]; omega⟩ (fun w'' pos' qv' skip' Bd' hp s' => hB w'' pos' qv' skip' Bd' (by omega) s') hK
  · obtain ⟨l, hl⟩ := s.cn.sl.row h1
    exact q.sl.ne hl (by decide) h2
  · have := hob2 b h2
    omega
  · rcases ho1 with h2 | ⟨b', h2, h3⟩
    · exact hob2 b (by rw [← h2]; exact h1)
    · rw [h2] at h1
      have := Option.some.inj h1
      omega
set_option maxHeartbeats 2000000 in
theorem sp_11 (cl0 : c < w.heap.size) (a0 : Ar bC 1 (fun b => ob = some b) w bv' d) (hb : By d) (hl : d.length ≤ 100000) (s : SI w w' c e ob bv' d R pos qv skip Bd)
    (hB : ∀ w'' pos' qv' skip' Bd', pos < pos' → SI w w'' c e ob bv' d R pos' qv' skip' Bd' → B1 [P c 0, qv', I (pos' : Nat)] w'')
    (hK : SpK w c e ob bv' d R K) : s137_p11 K B1 (P c 0) qv (I (pos : Nat)) w' := by
  have hle := s.le
  have hn := s.n
  obtain ⟨R', sp⟩ := s.sp
  have hsk := sp.v.sk
  have hdl : (d.drop pos).length = d.length - pos := List.length_drop
  have hcs := s.cn.ne
  unfold s137_p11
  refine nk0 (fdp (ld1_r (v := I skip) s.cn.row rfl ?_))
  simp only [e_gtr]
  by_cases h0 : 0 < skip
  · have e0 : decide ((0 : Int) < skip) = true := decide_eq_true h0
    simp only [e0, e_ift]
    refine nk0 (fdp (ld1_r (v := bv') s.cn.row rfl ?_))
    refine s.cn.sl.ln ?_
    have ew1 : IntKind.i64.wrap (((d.length : Nat) : Int) - ((pos : Nat) : Int)) = ((d.length : Nat) : Int) - ((pos : Nat) : Int) := wrap64_id (by omega) (by omega)
    simp only [e_sub, ew1]
    refine nk0 (fdp (ld1_r (v := I skip) s.cn.row rfl ?_))
    simp only [e_gtr]
    by_cases h1 : skip < ((d.length : Nat) : Int) - ((pos : Nat) : Int)
    · have e1 : decide (skip < ((d.length : Nat) : Int) - ((pos : Nat) : Int)) = true := decide_eq_true h1
      simp only [e1, e_ift]
      refine nk0 (fdp (ld1_r (v := I skip) s.cn.row rfl ?_))
      have ew2 : IntKind.i64.wrap (((pos : Nat) : Int) + skip) = ((pos + skip.toNat : Nat) : Int) := by rw [wrap64_id (by omega) (by omega)]; omega
      simp only [e_add, ew2]
      refine nk0 (fdp (ld1_r (v := I skip) s.cn.row rfl ?_))
      have ew3 : IntKind.i64.wrap (skip - skip) = 0 := by rw [Int.sub_self]; decide
      simp only [e_sub, ew3]
      refine nk0 (fdp (st1_r s.cn.row (show 2 < 4 by decide) rfl fun w1 r1 hk1 hz1 => ?_))
      replace r1 : Row w1 c 174 [P e 0, bv', I 0, .bool false] := r1
      refine nk0 (fdp (ld1_r (v := I 0) r1 rfl ?_))
      have e2 : decide ((0 : Int) < 0) = false := by decide
      simp only [e_gtr, e2, e_iff]
      exact sp_past cl0 a0 hb hl s h0 (by omega) ⟨r1, s.cn.sl.kp hk1 fun b h1 (h2 : b = c) => hcs b h1 h2⟩ hk1 rfl hB hK
    · have e1 : decide (skip < ((d.length : Nat) : Int) - ((pos : Nat) : Int)) = false := decide_eq_false h1
      simp only [e1, e_iff]
      have ew2 : IntKind.i64.wrap (((pos : Nat) : Int) + (((d.length : Nat) : Int) - ((pos : Nat) : Int))) = ((d.length : Nat) : Int) := by rw [wrap64_id (by omega) (by omega)]; omega
      simp only [e_add, ew2]
      refine nk0 (fdp (ld1_r (v := I skip) s.cn.row rfl ?_))
      have ew3 : IntKind.i64.wrap (skip - (((d.length : Nat) : Int) - ((pos : Nat) : Int))) = skip - (((d.length : Nat) : Int) - ((pos : Nat) : Int)) := wrap64_id (by omega) (by omega)
      simp only [e_sub, ew3]
      refine nk0 (fdp (st1_r s.cn.row (show 2 < 4 by decide) rfl fun w1 r1 hk1 hz1 => ?_))
      replace r1 : Row w1 c 174 [P e 0, bv', I (skip - (((d.length : Nat) : Int) - ((pos : Nat) : Int))), .bool false] := r1
      refine nk0 (fdp (ld1_r (v := I (skip - (((d.length : Nat) : Int) - ((pos : Nat) : Int)))) r1 rfl ?_))
      simp only [e_gtr]
      by_cases h2 : 0 < skip - (((d.length : Nat) : Int) - ((pos : Nat) : Int))
      · have e2 : decide ((0 : Int) < skip - (((d.length : Nat) : Int) - ((pos : Nat) : Int))) = true := decide_eq_true h2
        simp only [e2, e_ift]
        obtain ⟨ob2, vals, q, hob2⟩ := s.q
        have hkz := s.k.size
        obtain ⟨f1, f2⟩ := sp.wait h0 (by omega)
        have hd0 : d.drop d.length = [] := List.drop_length
        refine hK _ _ ob2 vals Bd R' d.length _ false (Nat.le_refl _) ⟨r1, s.cn.sl.kp hk1 fun b h1 (h2 : b = c) => hcs b h1 h2⟩ (q.kp hk1 fun b h1 (h2 : b = c) => ?_) hob2 (s.k.trans hk1) (by omega) (.inl ⟨rfl, f1, ?_, .inr hd0⟩)
        · have := hob2 b h1
          omega
        · rw [hd0]
          have : (((d.drop pos).length : Nat) : Int) = ((d.length : Nat) : Int) - ((pos : Nat) : Int) := by omega
          rw [this] at f2
          exact f2
      · have e2 : decide ((0 : Int) < skip - (((d.length : Nat) : Int) - ((pos : Nat) : Int))) = false := decide_eq_false h2
        simp only [e2, e_iff]
        have es : skip - (((d.length : Nat) : Int) - ((pos : Nat) : Int)) = 0 := by omega
        rw [es] at r1
        exact sp_past cl0 a0 hb hl s h0 (by omega) ⟨r1, s.cn.sl.kp hk1 fun b h1 (h2 : b = c) => hcs b h1 h2⟩ hk1 (by omega) hB hK
  · have e0 : decide ((0 : Int) < skip) = false := decide_eq_false h0
    simp only [e0, e_iff]
    have es : skip = 0 := by omega
    subst es
    exact sp_10 cl0 a0 hb hl s hB hK
/-- the frames of a connection's buffer -/
theorem split_ok (hc : Cn w c e ob bv' d skip false) (hb : By d) (hl : d.length ≤ 100000) (hv : VR R d skip) (hK : SpK w c e ob bv' d R K) : cl Tryz.prog 137 #[P c 0] K w := by
  apply c137
  unfold s137_p13 s137_p12
  have a0 : Ar bC 1 (fun b => ob = some b) w bv' d := hc.sl.ar bC_len (by omega) fun b e => e
  refine loop_m d.length (fun n l w' => ∃ pos qv sk Bd, n + pos = d.length ∧ l = [P c 0, qv, I (pos : Nat)] ∧ SI w w' c e ob bv' d R pos qv sk Bd) ⟨0, nilS, skip, [], rfl, rfl, hc, Kp.refl _ _, ⟨none, [], Bqs.nil, fun b h => by cases h⟩, Nat.zero_le _, ⟨R, fun h => h, hv⟩, Nat.le_refl _⟩ ?_
  rintro n l w1 ⟨pos, qv, sk, Bd, hn, rfl, s⟩ B hB
  rw [s137_p12_Fe]
  refine sp_11 hc.row.lt a0 hb hl s (fun w'' pos' qv' skip' Bd' hp s' => ?_) hK
  have := s'.le
  exact hB (d.length - pos') _ _ (by omega) ⟨pos', qv', skip', Bd', by omega, rfl, s'⟩
end
end Go.Proofs.Qxb6500896aGreat
