import Derived.Test.Qxb6500896aGreatDoorK50
namespace Go.Proofs.Qxb6500896aGreatDoor
open Go.Sh Go.RowKit
set_option linter.unusedVariables false
set_option linter.unusedSimpArgs false

/-! a number is read back -/
theorem num_split (x i : Nat) : x % 128 * 128 ^ i + x / 128 * 128 ^ (i + 1) = x * 128 ^ i := by
  rw [Nat.pow_succ, Nat.mul_comm (128 ^ i) 128, ← Nat.mul_assoc, ← Nat.add_mul]
  congr 1
  omega
theorem scanG_uv : ∀ (f i a x : Nat) (r : List Int), x < 128 ^ (f + 1) → (i = 0 ∨ 0 < x) → scanG (f + 1) i a (uvF (f + 1) x ++ r) = (a + x * 128 ^ i, i + (uvF (f + 1) x).length, 0)
  | 0, i, a, x, r, hx, hi => by
    have h : x < 128 := by simpa using hx
    rw [uvF_small h, List.singleton_append, scanG, if_pos (by omega), if_neg (by omega)]
    have e : ((x : Nat) : Int).toNat % 128 = x := by rw [Int.toNat_natCast]; omega
    rw [e]; rfl
  | f + 1, i, a, x, r, hx, hi => by
    by_cases h : x < 128
    · rw [uvF_small h, List.singleton_append, scanG, if_pos (by omega), if_neg (by omega)]
      have e : ((x : Nat) : Int).toNat % 128 = x := by rw [Int.toNat_natCast]; omega
      rw [e]; rfl
    · rw [uvF_big h, List.cons_append, scanG, if_neg (by omega)]
      have e : ((x % 128 + 128 : Nat) : Int).toNat % 128 = x % 128 := by rw [Int.toNat_natCast]; omega
      rw [e, scanG_uv f (i + 1) _ (x / 128) r (by rw [Nat.div_lt_iff_lt_mul (by decide), ← Nat.pow_succ]; exact hx) (.inr (by omega)), List.length_cons, Nat.add_assoc, num_split]
      congr 2
      omega
theorem scan_uv {x : Nat} (h : x < 9223372036854775808) (r : List Int) : scan (uv x ++ r) = (x, (uv x).length, 0) := by
  unfold scan uv
  rw [scanG_uv 8 0 0 x r (by simpa using h) (.inl rfl)]
  simp
theorem rNum_uv {x : Nat} (h : x < 9223372036854775808) (r : List Int) (b : Bool) : rNum (uv x ++ r, b) = (x, r, b) := by
  rw [rNum_eq]
  simp only [scan_uv h, if_true, List.drop_left]
theorem rNum_uI {x : Int} (h : N63 x) (r : List Int) (b : Bool) : rNum (uI x ++ r, b) = (x.toNat, r, b) := rNum_uv (by have := h.1; have := h.2; omega) r b
theorem rUp_uI {x : Int} {m : Nat} (h : N63 x) (hm : x ≤ ((m : Nat) : Int)) (r : List Int) (b : Bool) : rUp m (uI x ++ r, b) = (x.toNat, r, b) := by
  unfold rUp
  rw [rNum_uI h, if_neg (by simp only; omega)]
theorem toN {x : Int} (h : N63 x) : ((x.toNat : Nat) : Int) = x := by have := h.1; omega
theorem rLegsN_enc : ∀ (ls : List Leg) (r : List Int) (b : Bool), (∀ l ∈ ls, N63 l.a ∧ N63 l.s) → rLegsN ls.length (encLs ls ++ r, b) = (ls, r, b)
  | [], r, b, _ => rfl
  | l :: ls, r, b, h => by
    have hl := h l List.mem_cons_self
    have e : encLs (l :: ls) = uI l.a ++ uI l.s ++ encLs ls := by simp [encLs]
    rw [e, List.length_cons, rLegsN, List.append_assoc, List.append_assoc, rNum_uI hl.1, rNum_uI hl.2, rLegsN_enc ls r b fun x hx => h x (List.mem_cons_of_mem _ hx)]
    simp only [toN hl.1, toN hl.2]
theorem rLegs_enc {ls : List Leg} {m : Nat} (h : ∀ l ∈ ls, N63 l.a ∧ N63 l.s) (hm : ls.length ≤ m) (hm2 : m ≤ 1000000) (r : List Int) : rLegs m (encLegs ls ++ r, false) = (ls, r, false) := by
  unfold encLegs
  have e := rUp_uI (x := (ls.length : Nat)) (m := m) ⟨by omega, by omega⟩ (by omega) (encLs ls ++ r) false
  rw [Int.toNat_natCast] at e
  unfold rLegs
  rw [List.append_assoc, e]
  by_cases q : ls.length = 0
  · have : ls = [] := List.eq_nil_of_length_eq_zero q
    subst this
    rfl
  · rw [if_neg (by simp only; rintro (q' | q'); · cases q'
                   · exact q q')]
    exact rLegsN_enc ls r false h
theorem rRec_enc {x : Rec} (h : RN x) (hs : x.st ≤ 9) (r : List Int) : rRec (encRec x ++ r, false) = (x, r, false) := by
  unfold encRec rRec
  simp only [List.append_assoc]
  rw [rNum_uI h.id, rUp_uI (m := 9) h.st hs, rNum_uI h.cl, rNum_uI h.sz, rNum_uI h.ln, rNum_uI h.ex, rLegs_enc h.lg h.ll (by decide)]
  simp only [toN h.id, toN h.st, toN h.cl, toN h.sz, toN h.ln, toN h.ex]
theorem rRecsN_enc : ∀ (rs : List Rec) (r : List Int), (∀ x ∈ rs, RN x ∧ x.st ≤ 9) → rRecsN rs.length (encRs rs ++ r, false) = (rs, r, false)
  | [], r, _ => rfl
  | x :: rs, r, h => by
    have hx := h x List.mem_cons_self
    have e : encRs (x :: rs) = encRec x ++ encRs rs := by simp [encRs]
    rw [e, List.length_cons, rRecsN, List.append_assoc, rRec_enc hx.1 hx.2, rRecsN_enc rs r fun y hy => h y (List.mem_cons_of_mem _ hy)]
theorem uI_pos (x : Int) : 1 ≤ (uI x).length := uv_pos
theorem encRec_7 (x : Rec) : 7 ≤ (encRec x).length := by
  unfold encRec encLegs
  simp only [List.length_append]
  have := uI_pos x.id
  have := uI_pos x.st
  have := uI_pos x.cl
  have := uI_pos x.sz
  have := uI_pos x.ln
  have := uI_pos x.ex
  have := uI_pos (x.legs.length : Nat)
  omega
theorem encRs_7 (rs : List Rec) : 7 * rs.length ≤ (encRs rs).length := by
  induction rs with
  | nil => simp
  | cons x rs ih =>
    have e : encRs (x :: rs) = encRec x ++ encRs rs := by simp [encRs]
    have := encRec_7 x
    rw [e, List.length_cons, List.length_append]; omega
theorem rCount_enc {n k : Nat} {ys : List Int} (hk : 0 < k) (hn : n ≤ 1000000) (hy : k * n ≤ ys.length) : rCount k (uI (n : Nat) ++ ys, false) = (n, ys, false) := by
  unfold rCount
  have e := rUp_uI (x := (n : Nat)) (m := (uI (n : Nat) ++ ys).length / k) ⟨by omega, by omega⟩ (by
    have : n ≤ (uI (n : Nat) ++ ys).length / k := by
      rw [Nat.le_div_iff_mul_le hk, List.length_append, Nat.mul_comm]; omega
    omega) ys false
  rw [Int.toNat_natCast] at e
  exact e
theorem rRecs_enc {rs : List Rec} (hn : rs.length ≤ 1000000) (h : ∀ x ∈ rs, RN x ∧ x.st ≤ 9) (r : List Int) : rRecs (uI (rs.length : Nat) ++ (encRs rs ++ r), false) = (rs, r, false) := by
  unfold rRecs
  rw [rCount_enc (by decide) hn (by rw [List.length_append]; have := encRs_7 rs; omega)]
  by_cases q : rs.length = 0
  · have : rs = [] := List.eq_nil_of_length_eq_zero q
    subst this
    rfl
  · rw [if_neg (by simp only; rintro (q' | q'); · cases q'
                   · exact q q')]
    exact rRecsN_enc rs r h
theorem rIdsN_enc : ∀ (l : List Int) (r : List Int), (∀ x ∈ l, N63 x) → rIdsN l.length (encIds l ++ r, false) = (l, r, false)
  | [], r, _ => rfl
  | x :: l, r, h => by
    have hx := h x List.mem_cons_self
    have e : encIds (x :: l) = uI x ++ encIds l := by simp [encIds]
    rw [e, List.length_cons, rIdsN, List.append_assoc, rNum_uI hx, rIdsN_enc l r fun y hy => h y (List.mem_cons_of_mem _ hy)]
    simp only [toN hx]
theorem encIds_1 (l : List Int) : l.length ≤ (encIds l).length := by
  induction l with
  | nil => simp
  | cons x l ih =>
    have e : encIds (x :: l) = uI x ++ encIds l := by simp [encIds]
    have := uI_pos x
    rw [e, List.length_cons, List.length_append]; omega
theorem rIds_enc {l : List Int} (hn : l.length ≤ 1000000) (h : ∀ x ∈ l, N63 x) (r : List Int) : rIds (encLn l ++ r, false) = (l, r, false) := by
  unfold rIds encLn
  rw [List.append_assoc, rCount_enc (by decide) hn (by rw [List.length_append]; have := encIds_1 l; omega)]
  by_cases q : l.length = 0
  · have : l = [] := List.eq_nil_of_length_eq_zero q
    subst this
    rfl
  · rw [if_neg (by simp only; rintro (q' | q'); · cases q'
                   · exact q q')]
    exact rIdsN_enc l r h
theorem rLnsN_enc : ∀ (ls : List (List Int)) (r : List Int), (∀ l ∈ ls, l.length ≤ 1000000 ∧ ∀ x ∈ l, N63 x) → rLnsN ls.length (encLns ls ++ r, false) = (ls, r, false)
  | [], r, _ => rfl
  | l :: ls, r, h => by
    have hl := h l List.mem_cons_self
    have e : encLns (l :: ls) = encLn l ++ encLns ls := by simp [encLns]
    rw [e, List.length_cons, rLnsN, List.append_assoc, rIds_enc hl.1 hl.2, rLnsN_enc ls r fun y hy => h y (List.mem_cons_of_mem _ hy)]
theorem encLns_1 (ls : List (List Int)) : ls.length ≤ (encLns ls).length := by
  induction ls with
  | nil => simp
  | cons x l ih =>
    have e : encLns (x :: l) = encLn x ++ encLns l := by simp [encLns]
    have := uI_pos (x.length : Nat)
    rw [e, List.length_cons, List.length_append]
    unfold encLn
    rw [List.length_append]; omega
/-- what a snapshot must hold to be read back -/
structure ImE (im : Img) : Prop where
  n : ImN im
  ru : N63 im.rules
  st : ∀ r ∈ im.rs, r.st ≤ 9
  rl : im.rs.length ≤ 1000000
  ll : im.ls.length ≤ 1000000
  le : ∀ l ∈ im.ls, l.length ≤ 1000000
theorem decImg_enc {im : Img} (h : ImE im) : decImg (encImg im) = (im, true) := by
  unfold encImg
  have e1 : rOct ([1] ++ uI im.rules ++ uI im.seq ++ uI im.now ++ uI (im.rs.length : Nat) ++ encRs im.rs ++ uI (im.ls.length : Nat) ++ encLns im.ls, false) = (1, uI im.rules ++ (uI im.seq ++ (uI im.now ++ (uI (im.rs.length : Nat) ++ (encRs im.rs ++ (uI (im.ls.length : Nat) ++ (encLns im.ls ++ [])))))), false) := by
    simp only [List.append_assoc, List.append_nil]; rfl
  unfold decImg
  rw [e1, if_pos rfl]
  have e2 : decI (uI im.rules ++ (uI im.seq ++ (uI im.now ++ (uI (im.rs.length : Nat) ++ (encRs im.rs ++ (uI (im.ls.length : Nat) ++ (encLns im.ls ++ [])))))), false) = (im, [], false) := by
    unfold decI
    rw [rNum_uI h.ru, rNum_uI h.n.seq, rNum_uI h.n.now, rRecs_enc h.rl fun x hx => ⟨h.n.rs x hx, h.st x hx⟩, rCount_enc (by decide) h.ll (by rw [List.length_append]; have := encLns_1 im.ls; omega), rLnsN_enc _ _ fun l hl => ⟨h.le l hl, h.n.ids l hl⟩]
    simp only [toN h.ru, toN h.n.seq, toN h.n.now]
  rw [e2]
  rfl
end Go.Proofs.Qxb6500896aGreatDoor
