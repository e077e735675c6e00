import Derived.Test.Qxb6500896aGreatR1
namespace Go.Proofs.Qxb6500896aGreat
open Go.Sh Go.RowKit
set_option linter.unusedVariables false
set_option linter.unusedSimpArgs false

/-! ### a reply is read -/
def rpo (b : Int) : Rp := { rp0 with op := b }
def dst : List Int := [2, 3, 4, 5, 7, 8]
/-- the fields of a reply of kind b -/
def decRB (b : Int) (s : RS) : Rp × RS :=
  if b = 1 ∨ b = 22 then ({ rpo b with id := ((rNum s).1 : Nat), ex := ((rNum (rNum s).2).1 : Nat) }, (rNum (rNum s).2).2)
  else if b = 6 then ({ rpo b with id := ((rNum s).1 : Nat), pos := ((rNum (rNum s).2).1 : Nat) }, (rNum (rNum s).2).2)
  else if b ∈ dst then ({ rpo b with st := ((rUp 9 s).1 : Nat) }, (rUp 9 s).2)
  else if b = 9 then ({ rpo b with now := ((rNum s).1 : Nat), iss := (rIss (rNum s).2).1, exd := ((rNum (rIss (rNum s).2).2).1 : Nat), ns := ((rNum (rNum (rIss (rNum s).2).2).2).1 : Nat), lp := ((rNum (rNum (rNum (rIss (rNum s).2).2).2).2).1 : Nat) }, (rNum (rNum (rNum (rIss (rNum s).2).2).2).2).2)
  else if b = 16 then ({ rpo b with recs := [(rRec s).1] }, (rRec s).2)
  else if b = 17 then ({ rpo b with nx := ((rNum s).1 : Nat), recs := (rRecs (rNum s).2).1 }, (rRecs (rNum s).2).2)
  else if b = 18 then ({ rpo b with oc := ((rNum s).1 : Nat), e0 := ((rNum (rNum s).2).1 : Nat), e1 := ((rNum (rNum (rNum s).2).2).1 : Nat), e2 := ((rNum (rNum (rNum (rNum s).2).2).2).1 : Nat), fr := ((rNum (rNum (rNum (rNum (rNum s).2).2).2).2).1 : Nat) }, (rNum (rNum (rNum (rNum (rNum s).2).2).2).2).2)
  else if b = 19 then ({ rpo b with wt := (rIds s).1 }, (rIds s).2)
  else if b = 20 then ({ rpo b with now := ((rNum s).1 : Nat), la := ((rNum (rNum s).2).1 : Nat), gr := ((rNum (rNum (rNum s).2).2).1 : Nat) }, (rNum (rNum (rNum s).2).2).2)
  else if b = 21 then ({ rpo b with sl := ((rNum s).1 : Nat) }, (rNum s).2)
  else if b = 23 then ({ rpo b with cnt := 0 :: (rIdsN 9 s).1 }, (rIdsN 9 s).2)
  else if b = 24 then ({ rpo b with at' := ((rNum s).1 : Nat), pos := ((rNum (rNum s).2).1 : Nat), ah := ((rNum (rNum (rNum s).2).2).1 : Nat) }, (rNum (rNum (rNum s).2).2).2)
  else (rpo b, ([], true))
def decRE (r : Rp × RS) : Rp × Bool := if rDone r.2 = true then (r.1, true) else (rp0, false)
/-- a reply from its bytes, and whether they are one -/
def decR (bs : List Int) : Rp × Bool :=
  if 23 ≤ (rOct (bs, false)).1 then (rp0, false)
  else if (rOct (bs, false)).1 = 0 then decRE (decRB (rOct (rOct (bs, false)).2).1 (rOct (rOct (bs, false)).2).2)
  else decRE ({ rp0 with code := (rOct (bs, false)).1 }, (rOct (bs, false)).2)
theorem rOct_b {s : RS} (h : By s.1) : (0 ≤ (rOct s).1 ∧ (rOct s).1 ≤ 255) ∧ By (rOct s).2.1 ∧ (rOct s).2.1.length ≤ s.1.length := by
  unfold rOct
  split
  · exact ⟨⟨by decide, by decide⟩, By.nil, by simp⟩
  · rename_i l x h1 h2
    simp only
    rw [h2] at h
    rw [h2]
    exact ⟨h x List.mem_cons_self, fun y hy => h y (List.mem_cons_of_mem _ hy), by simp⟩
/-- a row of numbers is put -/
def puts (cs : List Value) (k : Nat) : List Int → List Value
  | [] => cs
  | x :: xs => puts (cs.set k (I x)) (k + 1) xs
theorem puts_len : ∀ (xs : List Int) (cs : List Value) (k : Nat), (puts cs k xs).length = cs.length
  | [], cs, k => rfl
  | x :: xs, cs, k => by rw [puts, puts_len xs, List.length_set]
theorem puts_snoc : ∀ (xs : List Int) (cs : List Value) (k : Nat) (x : Int), puts cs k (xs ++ [x]) = (puts cs k xs).set (k + xs.length) (I x)
  | [], cs, k, x => rfl
  | y :: xs, cs, k, x => by
    rw [List.cons_append, puts, puts_snoc xs, puts, List.length_cons, show k + 1 + xs.length = k + (xs.length + 1) by omega]
theorem rIdsN_snoc : ∀ (n : Nat) (s : RS), (rIdsN (n + 1) s).1 = (rIdsN n s).1 ++ [(((rNum (rIdsN n s).2).1 : Nat) : Int)] ∧ (rIdsN (n + 1) s).2 = (rNum (rIdsN n s).2).2
  | 0, s => ⟨rfl, rfl⟩
  | n + 1, s => by
    obtain ⟨h1, h2⟩ := rIdsN_snoc n (rNum s).2
    constructor
    · rw [rIdsN, rIdsN]
      show _ :: (rIdsN (n + 1) (rNum s).2).1 = _
      rw [h1]
      rfl
    · rw [rIdsN]
      show (rIdsN (n + 1) (rNum s).2).2 = _
      rw [h2]
      rfl
theorem rIdsN_len : ∀ (n : Nat) (s : RS), (rIdsN n s).1.length = n
  | 0, s => rfl
  | n + 1, s => by
    show (_ :: (rIdsN n (rNum s).2).1).length = _
    rw [List.length_cons, rIdsN_len n]
theorem rIss_le (s : RS) : (rIss s).2.1.length ≤ s.1.length := by
  have hn : ∀ (n : Nat) (s : RS), (rIssN n s).2.1.length ≤ s.1.length := by
    intro n
    induction n with
    | zero => intro s; exact Nat.le_refl _
    | succ n ih =>
      intro s
      show (rIssN n (rNum (rNum s).2).2).2.1.length ≤ _
      have := ih (rNum (rNum s).2).2
      have := rNum_le s
      have := rNum_le (rNum s).2
      omega
  have hc : (rCount 2 s).2.1.length ≤ s.1.length := rUp_le _ s
  unfold rIss
  split
  · exact hc
  · have := hn (rCount 2 s).1 (rCount 2 s).2
    omega
/-- a reply is being read: from the reader's block rb, into the block qb -/
structure Dr (F : Nat → Prop) (w0 w : World) (rb qb t2 : Nat) (s : RS) (cs : List Value) : Prop where
  rd : Rd F w rb s
  q : Row w qb 94 cs
  len : cs.length = 34
  t : Row w t2 94 (rp0.cells nilS nilS nilS)
  k : Kp Emp w0 w
  sz : (w0.heap.size ≤ t2 ∧ t2 < rb) ∧ rb < qb ∧ qb < w.heap.size
  f : ∀ b, F b → b < w0.heap.size
  sl : s.1.length ≤ 1000000000
section
variable {F G S : Nat → Prop} {w w' w0 w1 : World} {v iv rv wv : Value} {rb qb t2 k : Nat} {s s' : RS} {K : Value → World → Prop} {cs : List Value} {p : Rp}
theorem Dr.go {x : Value} {X : World → Prop} (h : Dr F w0 w rb qb t2 s cs) (rd' : Rd F w1 rb s') (hk1 : Kp (fun b => b = rb) w w1) (hs : s'.1.length ≤ 1000000000) (hk : k < 34) (hx : scal x = true)
    (hX : ∀ w', Dr F w0 w' rb qb t2 s' (cs.set k x) → Kp (fun b => b = qb) w1 w' → w'.heap.size = w1.heap.size → X w') : fd k (P qb 0) (fun p w => st1 p x (fun w => X w) w) w1 := by
  have sz := h.sz
  have s1 := hk1.size
  refine fdp ?_
  refine st1_r (hk1.row h.q (show ¬ qb = rb by omega)) (by rw [h.len]; exact hk) hx fun w2 r2 hk2 hz2 => ?_
  refine hX w2 ⟨rd'.kp hk2 (fun b q (e : b = qb) => by have := h.f b q; omega) (by omega), r2, by rw [List.length_set]; exact h.len, hk2.row (hk1.row h.t (show ¬ t2 = rb by omega)) (show ¬ t2 = qb by omega), ?_, ⟨sz.1, sz.2.1, by omega⟩, h.f, hs⟩ hk2 hz2
  exact (h.k.then hk1 fun b hb (q : b = rb) => by omega).then hk2 fun b hb (q : b = qb) => by omega
/-- a number is read into a field -/
theorem Dr.num {X : World → Prop} (h : Dr F w0 w rb qb t2 s cs) (hk : k < 34) (hX : ∀ w', Dr F w0 w' rb qb t2 (rNum s).2 (cs.set k (I ((rNum s).1 : Nat))) → Kp (fun b => b = rb ∨ b = qb) w w' → X w') :
    cl Tryz.prog 105 #[P rb 0] (fun t w => fd k (P qb 0) (fun p w => st1 p t (fun w => X w) w) w) w := by
  refine rnum_ok h.rd fun w1 r1 hk1 => ?_
  have := rNum_le s
  have := h.sl
  exact h.go r1 hk1 (by omega) hk rfl fun w2 h2 hk2 hz2 => hX w2 h2 ((hk1.mono fun b _ q => .inl q).trans (hk2.mono fun b _ q => .inr q))
theorem Dr.up {X : World → Prop} (h : Dr F w0 w rb qb t2 s cs) (hk : k < 34) (hX : ∀ w', Dr F w0 w' rb qb t2 (rUp 9 s).2 (cs.set k (I ((rUp 9 s).1 : Nat))) → X w') :
    cl Tryz.prog 131 #[P rb 0, I 9] (fun t w => fd k (P qb 0) (fun p w => st1 p t (fun w => X w) w) w) w := by
  refine rup_ok (m := 9) (by decide) h.rd fun w1 r1 hk1 => ?_
  have := rUp_le 9 s
  have := h.sl
  exact h.go r1 hk1 (by omega) hk rfl fun w2 h2 hk2 hz2 => hX w2 h2
/-- the end of it -/
def DK (K : Value → World → Prop) (w0 : World) (r : Rp × RS) : Prop := ∀ w' l, Kp Emp w0 w' → Rv (Nb w0 w') w' l (decRE r).1 → K (.tuple #[.agg l.toArray, .bool (decRE r).2]) w'
theorem rv0 : Rv F w (rp0.cells nilS nilS nilS) rp0 := ⟨nilS, nilS, nilS, rfl, Ar.nil, ⟨[], rfl, Ar.nil, fun p hp => by cases hp⟩, Ar.nil, rfl⟩
theorem dr_end (h : Dr F w0 w rb qb t2 s cs) (e : cs = p.cells iv rv wv) (hi : Ar isC2 2 G w iv p.iss) (hr : Ro G w rv p.recs) (hw : Ar iC 1 G w wv p.wt) (hc : p.cnt.length = 10) (hG : ∀ b, G b → qb < b ∧ b < w.heap.size) (hK : DK K w0 (p, s)) :
    s45_p1 K (P t2 0) (P rb 0) (P qb 0) w := by
  have sz := h.sz
  unfold s45_p1
  refine rdone_ok h.rd fun w1 hk1 => ?_
  have k1 := h.k.trans hk1
  have rt := hk1.row' h.t
  have s1 := hk1.size
  unfold DK decRE at hK
  simp only at hK
  cases hd : rDone s with
  | true =>
    rw [if_pos hd] at hK
    simp only [Bool.not_true, e_not, e_iff]
    refine ldn_r (hk1.row' h.q) (by rw [h.len]; decide) ?_
    rw [List.drop_zero, List.take_of_length_le (by rw [h.len]; decide), e]
    have hsc : (p.cells iv rv wv).all scal = true := Rp.sc hi.scal (by obtain ⟨its, _, a2, _⟩ := hr; exact a2.scal) hw.scal
    refine stn_r (cs := p.cells iv rv wv) rt (Rp.len hc) (show 0 + 34 ≤ 34 by decide) hsc fun w2 r2 hk2 hz2 => ?_
    rw [List.take_zero, List.nil_append, Nat.zero_add, List.drop_of_length_le (by decide), List.append_nil] at r2
    refine ldn_r r2 (by rw [Rp.len hc]; decide) ?_
    rw [List.drop_zero, List.take_of_length_le (by rw [Rp.len hc]; decide)]
    have rvv : Rv G w (p.cells iv rv wv) p := ⟨iv, rv, wv, rfl, hi, hr, hw, hc⟩
    refine hK w2 _ (k1.then hk2 fun b hb (q : b = _) => by omega) ((((rvv.kp hk1 fun b _ q => q).kp hk2 fun b hb (q : b = t2) => by have := (hG b hb).1; omega)).mono fun b hb => ?_)
    have := hG b hb
    have hkz := h.k.size
    exact ⟨by omega, by omega⟩
  | false =>
    rw [if_neg (show ¬ rDone s = true by rw [hd]; simp)] at hK
    simp only [Bool.not_false, e_not, e_ift]
    refine bdq_r (l := rp0.cells nilS nilS nilS) rfl ?_
    refine stn_r (cs := rp0.cells nilS nilS nilS) rt rfl (show 0 + 34 ≤ 34 by decide) (Rp.sc rfl rfl rfl) fun w2 r2 hk2 hz2 => ?_
    replace r2 : Row w2 t2 94 (rp0.cells nilS nilS nilS) := r2
    refine ldn_r r2 (show 0 + 34 ≤ 34 by decide) ?_
    exact hK w2 _ (k1.then hk2 fun b hb (q : b = _) => by omega) rv0
theorem dr_plain (h : Dr F w0 w rb qb t2 s cs) (e : cs = p.cells nilS nilS nilS) (h1 : p.iss = []) (h2 : p.recs = []) (h3 : p.wt = []) (hc : p.cnt.length = 10) (hK : DK K w0 (p, s)) :
    s45_p1 K (P t2 0) (P rb 0) (P qb 0) w :=
  dr_end (G := Emp) h e (by rw [h1]; exact Ar.nil) (by rw [h2]; exact ⟨[], rfl, Ar.nil, fun p hp => by cases hp⟩) (by rw [h3]; exact Ar.nil) hc (fun b q => q.elim) hK
end
end Go.Proofs.Qxb6500896aGreat
