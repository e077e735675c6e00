import Derived.Test.Qxb6500896aGreatN28
namespace Go.Proofs.Qxb6500896aGreat
open Go.Sh Go.RowKit
set_option linter.unusedVariables false
set_option linter.unusedSimpArgs false

/-! ### what a system answers to all questions tells its state -/
theorem uI_pf {x y : Int} {s t : List Int} (hx : N63 x) (hy : N63 y) (h : uI x ++ s = uI y ++ t) : x = y ∧ s = t := by
  unfold N63 at hx hy
  have h1 := scan_uv (x := x.toNat) (by omega) s
  have h2 := scan_uv (x := y.toNat) (by omega) t
  unfold uI at h
  rw [h] at h1
  rw [h1] at h2
  have e : x.toNat = y.toNat := congrArg Prod.fst h2
  have ex : x = y := by omega
  subst ex
  exact ⟨rfl, List.append_cancel_left h⟩
theorem num_pf : ∀ {a b : List Int} {s t : List Int}, (∀ x ∈ a, N63 x) → (∀ x ∈ b, N63 x) → a.flatMap uI ++ s = b.flatMap uI ++ t → (∃ r, b = a ++ r) ∨ (∃ r, a = b ++ r)
  | [], b, s, t, _, _, _ => .inl ⟨b, rfl⟩
  | a, [], s, t, _, _, _ => .inr ⟨a, rfl⟩
  | x :: a, y :: b, s, t, ha, hb, h => by
    rw [List.flatMap_cons, List.flatMap_cons, List.append_assoc, List.append_assoc] at h
    obtain ⟨e, h'⟩ := uI_pf (ha x List.mem_cons_self) (hb y List.mem_cons_self) h
    subst e
    rcases num_pf (fun z hz => ha z (List.mem_cons_of_mem _ hz)) (fun z hz => hb z (List.mem_cons_of_mem _ hz)) h' with ⟨r, e⟩ | ⟨r, e⟩
    · exact .inl ⟨r, by rw [e]; rfl⟩
    · exact .inr ⟨r, by rw [e]; rfl⟩
theorem num_inj {a b : List Int} (ha : ∀ x ∈ a, N63 x) (hb : ∀ x ∈ b, N63 x) (hl : a.length = b.length) (h : a.flatMap uI = b.flatMap uI) : a = b := by
  rcases num_pf (s := []) (t := []) ha hb (by rw [h]) with ⟨r, e⟩ | ⟨r, e⟩
  · have : r = [] := List.length_eq_zero_iff.1 (by rw [e, List.length_append] at hl; omega)
    rw [e, this, List.append_nil]
  · have : r = [] := List.length_eq_zero_iff.1 (by rw [e, List.length_append] at hl; omega)
    rw [e, this, List.append_nil]
theorem legs_len (l : List Leg) : (l.flatMap fun l => [l.a, l.s]).length = 2 * l.length := by
  induction l with
  | nil => simp
  | cons a l ih => rw [List.flatMap_cons, List.length_append, List.length_cons, ih]; simp only [List.length_cons, List.length_nil]; omega
theorem legs_inj : ∀ {a b : List Leg}, (a.flatMap fun l => [l.a, l.s]) = (b.flatMap fun l => [l.a, l.s]) → a = b
  | [], [], _ => rfl
  | [], y :: b, h => by simp at h
  | x :: a, [], h => by simp at h
  | x :: a, y :: b, h => by
    simp only [List.flatMap_cons, List.cons_append, List.nil_append, List.cons.injEq] at h
    obtain ⟨h1, h2, h3⟩ := h
    have := legs_inj h3
    subst this
    obtain ⟨xa, xs⟩ := x
    obtain ⟨ya, ys⟩ := y
    simp only at h1 h2
    subst h1; subst h2
    rfl
theorem row_pf {p q : Rec} {s t : List Int} (h : rowL p ++ s = rowL q ++ t) : p = q ∧ s = t := by
  unfold rowL at h
  simp only [List.cons_append, List.nil_append, List.cons.injEq] at h
  obtain ⟨h1, h2, h3, h4, h5, h6, h7, h8⟩ := h
  have hl : p.legs.length = q.legs.length := by omega
  obtain ⟨e, e2⟩ := List.append_inj h8 (by rw [legs_len, legs_len, hl])
  have := legs_inj e
  refine ⟨?_, e2⟩
  cases p
  cases q
  simp only at h1 h2 h3 h4 h5 h6 this
  subst h1; subst h2; subst h3; subst h4; subst h5; subst h6; subst this
  rfl
theorem rows_pf : ∀ {a b : List Rec} {s t : List Int}, a.length = b.length → a.flatMap rowL ++ s = b.flatMap rowL ++ t → a = b ∧ s = t
  | [], [], s, t, _, h => ⟨rfl, h⟩
  | x :: a, y :: b, s, t, hl, h => by
    rw [List.flatMap_cons, List.flatMap_cons, List.append_assoc, List.append_assoc] at h
    obtain ⟨e, h'⟩ := row_pf h
    obtain ⟨e2, e3⟩ := rows_pf (by simpa using hl) h'
    exact ⟨by rw [e, e2], e3⟩
/-- the numbers of an answer -/
def Cl (op : Int) (ns : List Int) : Prop :=
  (op = 16 ∧ ∃ r, ns = rowL r) ∨ (op = 17 ∧ ∃ nx R, ns = [nx, ((List.length (α := Rec) R : Nat) : Int)] ++ R.flatMap rowL) ∨ (op = 19 ∧ ∃ ids : List Int, ns = ((ids.length : Nat) : Int) :: ids) ∨ (op = 18 ∧ ns.length = 5) ∨ (op = 20 ∧ ns.length = 3) ∨ (op = 23 ∧ ns.length = 9) ∨ (op = 24 ∧ ns.length = 3) ∨ (op = 21 ∧ ns.length = 1) ∨ (op = 22 ∧ ns.length = 2)
theorem Cl.eq {op : Int} {a b r : List Int} (ha : Cl op a) (hb : Cl op b) (h : b = a ++ r) : a = b := by
  have key : a.length = b.length → a = b := fun hl => by
    have : r = [] := List.length_eq_zero_iff.1 (by rw [h, List.length_append] at hl; omega)
    rw [h, this, List.append_nil]
  rcases ha with ⟨o, p, e⟩ | ⟨o, nx, R, e⟩ | ⟨o, ids, e⟩ | ⟨o, e⟩ | ⟨o, e⟩ | ⟨o, e⟩ | ⟨o, e⟩ | ⟨o, e⟩ | ⟨o, e⟩ <;> rcases hb with ⟨o', p', e'⟩ | ⟨o', nx', R', e'⟩ | ⟨o', ids', e'⟩ | ⟨o', e'⟩ | ⟨o', e'⟩ | ⟨o', e'⟩ | ⟨o', e'⟩ | ⟨o', e'⟩ | ⟨o', e'⟩ <;> try (exfalso; omega)
  · rw [e, e'] at h
    have := row_pf (s := r) (t := []) (by rw [List.append_nil]; exact h.symm)
    rw [e, e', this.1]
  · rw [e, e'] at h
    simp only [List.cons_append, List.nil_append, List.cons.injEq] at h
    obtain ⟨h1, h2, h3⟩ := h
    have := rows_pf (a := R) (b := R') (s := r) (t := []) (by omega) (by rw [List.append_nil]; exact h3.symm)
    rw [e, e', h1, this.1]
  · rw [e, e'] at h
    simp only [List.cons_append, List.cons.injEq] at h
    exact key (by rw [e, e', List.length_cons, List.length_cons]; omega)
  · exact key (by omega)
  · exact key (by omega)
  · exact key (by omega)
  · exact key (by omega)
  · exact key (by omega)
  · exact key (by omega)
section
variable {σ σ1 σ2 : Sg} {q : Rq}
theorem QOk.x (hq : QOk q) : XprN q := by
  have hd : dec (enc q) = (q, 0) := hq.rb
  have := dec_x (bs := enc q) (by rw [hd])
  rw [hd] at this
  exact this
theorem qR_op (hi : 16 ≤ q.op ∧ q.op ≤ 24) (hc : (qR park q σ).code = 0) : (qR park q σ).op = q.op := by
  unfold qR at hc ⊢
  by_cases e : q.op = 16
  · rw [if_pos e] at hc ⊢
    unfold qGet at hc ⊢
    by_cases hh : has σ.rs q.id
    · rw [if_pos hh]
    · rw [if_neg hh] at hc; exact absurd hc (show ¬ (2 : Int) = 0 by decide)
  rw [if_neg e] at hc ⊢
  by_cases e : q.op = 17
  · rw [if_pos e]; rfl
  rw [if_neg e] at hc ⊢
  by_cases e : q.op = 18
  · rw [if_pos e]; rfl
  rw [if_neg e] at hc ⊢
  by_cases e : q.op = 19
  · rw [if_pos e]; rfl
  rw [if_neg e] at hc ⊢
  by_cases e : q.op = 20
  · rw [if_pos e]; rfl
  rw [if_neg e] at hc ⊢
  by_cases e : q.op = 21
  · rw [if_pos e] at hc ⊢
    unfold qFind at hc ⊢
    split
    · rename_i h; rw [if_pos h] at hc; exact absurd hc (show ¬ (22 : Int) = 0 by decide)
    · rename_i h
      rw [if_neg h] at hc
      split
      · rfl
      · rename_i h2; rw [h2] at hc; exact absurd hc (show ¬ (22 : Int) = 0 by decide)
  rw [if_neg e] at hc ⊢
  by_cases e : q.op = 22
  · rw [if_pos e] at hc ⊢
    unfold qQuo at hc ⊢
    by_cases hh : tCheck park q.cl q.sz q.legs σ.rs = 0
    · rw [if_pos hh]
    · rw [if_neg hh] at hc; exact absurd hc hh
  rw [if_neg e] at hc ⊢
  by_cases e : q.op = 23
  · rw [if_pos e]; rfl
  rw [if_neg e] at hc ⊢
  by_cases e : q.op = 24
  · rw [if_pos e] at hc ⊢
    unfold qPlace at hc ⊢
    by_cases h1 : has σ.rs q.id
    · rw [if_pos h1] at hc ⊢
      by_cases h2 : (rget σ.rs q.id).st = 7
      · rw [if_pos h2] at hc ⊢
        split
        · rfl
        · rename_i h3; rw [h3] at hc; exact absurd hc (show ¬ (20 : Int) = 0 by decide)
      · rw [if_neg h2] at hc; exact absurd hc (show ¬ (8 : Int) = 0 by decide)
    · rw [if_neg h1] at hc; exact absurd hc (show ¬ (2 : Int) = 0 by decide)
  exfalso
  omega
/-- the form of an answer -/
theorem qu_form (hq : QOk q) (g : SGd park σ) : (∃ c, c ≠ 0 ∧ quM q σ = [c]) ∨ (∃ ns, quM q σ = [0, q.op] ++ ns.flatMap uI ∧ (∀ x ∈ ns, N63 x) ∧ Cl q.op ns) := by
  unfold quM
  by_cases hv : valid park σ.now q = 0
  case neg => rw [if_neg hv]; exact .inl ⟨_, hv, rfl⟩
  rw [if_pos hv]
  have hi := hq.isq
  unfold isQ at hi
  simp only [Bool.and_eq_true, decide_eq_true_eq] at hi
  have hrp := qR_rpn park_cv (by decide) g hq.x hv hi
  by_cases hc : (qR park q σ).code = 0
  case neg => exact .inl ⟨_, hc, eR_n hc⟩
  right
  have ho : (qR park q σ).op = q.op := qR_op hi hc
  have hcl := qR_cnt park q σ
  generalize qR park q σ = p at hrp hc ho hcl
  rcases (show q.op = 16 ∨ q.op = 17 ∨ q.op = 18 ∨ q.op = 19 ∨ q.op = 20 ∨ q.op = 21 ∨ q.op = 22 ∨ q.op = 23 ∨ q.op = 24 by omega) with e | e | e | e | e | e | e | e | e
  · rw [e] at ho ⊢
    have hne := hrp.one ho hc
    obtain ⟨r, R, er⟩ : ∃ r R, p.recs = r :: R := by
      cases hp : p.recs with
      | nil => exact absurd hp hne
      | cons r R => exact ⟨r, R, rfl⟩
    refine ⟨rowL r, ?_, rowL_N (hrp.recs r (by rw [er]; exact List.mem_cons_self)), .inl ⟨rfl, r, rfl⟩⟩
    rw [eR_16 hc ho, er, rowL_enc]; rfl
  · rw [e] at ho ⊢
    refine ⟨[p.nx, ((p.recs.length : Nat) : Int)] ++ p.recs.flatMap rowL, ?_, fun x hx => ?_, .inr (.inl ⟨rfl, _, _, rfl⟩)⟩
    · rw [eR_17 hc ho, List.flatMap_append, rowL_encs]; simp
    · rcases List.mem_append.1 hx with q | q
      · rcases List.mem_cons.1 q with q | q
        · rw [q]; exact hrp.nx
        · rw [List.mem_singleton.1 q]; have := hrp.rl; exact ⟨by omega, by omega⟩
      · obtain ⟨r, hr, q⟩ := List.mem_flatMap.1 q
        exact rowL_N (hrp.recs r hr) x q
  · rw [e] at ho ⊢
    refine ⟨[p.oc, p.e0, p.e1, p.e2, p.fr], ?_, fun x hx => ?_, .inr (.inr (.inr (.inl ⟨rfl, rfl⟩)))⟩
    · rw [eR_18 hc ho]; simp
    · simp only [List.mem_cons, List.not_mem_nil, or_false] at hx
      rcases hx with r | r | r | r | r <;> rw [r]
      · exact hrp.oc
      · exact hrp.e0
      · exact hrp.e1
      · exact hrp.e2
      · exact hrp.fr
  · rw [e] at ho ⊢
    refine ⟨((p.wt.length : Nat) : Int) :: p.wt, ?_, fun x hx => ?_, .inr (.inr (.inl ⟨rfl, _, rfl⟩))⟩
    · rw [eR_19 hc ho]; unfold encIds; simp
    · rcases List.mem_cons.1 hx with r | r
      · rw [r]; have := hrp.wl; exact ⟨by omega, by omega⟩
      · exact hrp.wt x r
  · rw [e] at ho ⊢
    refine ⟨[p.now, p.la, p.gr], ?_, fun x hx => ?_, .inr (.inr (.inr (.inr (.inl ⟨rfl, rfl⟩))))⟩
    · rw [eR_20 hc ho]; simp
    · simp only [List.mem_cons, List.not_mem_nil, or_false] at hx
      rcases hx with r | r | r <;> rw [r]
      · exact hrp.now
      · exact hrp.la
      · exact hrp.gr
  · rw [e] at ho ⊢
    refine ⟨[p.sl], ?_, fun x hx => ?_, .inr (.inr (.inr (.inr (.inr (.inr (.inr (.inl ⟨rfl, rfl⟩)))))))⟩
    · rw [eR_21 hc ho]; simp
    · rw [List.mem_singleton.1 hx]; exact hrp.sl
  · rw [e] at ho ⊢
    refine ⟨[p.id, p.ex], ?_, fun x hx => ?_, .inr (.inr (.inr (.inr (.inr (.inr (.inr (.inr ⟨rfl, rfl⟩)))))))⟩
    · rw [eR_22 hc ho]; simp
    · simp only [List.mem_cons, List.not_mem_nil, or_false] at hx
      rcases hx with r | r <;> rw [r]
      · exact hrp.id
      · exact hrp.ex
  · rw [e] at ho ⊢
    refine ⟨p.cnt.drop 1, ?_, fun x hx => hrp.cnt x (List.mem_of_mem_drop hx), .inr (.inr (.inr (.inr (.inr (.inl ⟨rfl, by rw [List.length_drop, hcl]⟩)))))⟩
    rw [eR_23 hc ho]; rfl
  · rw [e] at ho ⊢
    refine ⟨[p.at', p.pos, p.ah], ?_, fun x hx => ?_, .inr (.inr (.inr (.inr (.inr (.inr (.inl ⟨rfl, rfl⟩))))))⟩
    · rw [eR_24 hc ho]; simp
    · simp only [List.mem_cons, List.not_mem_nil, or_false] at hx
      rcases hx with r | r | r <;> rw [r]
      · exact hrp.at'
      · exact hrp.pos
      · exact hrp.ah
theorem qu_pf {s t : List Int} (hq : QOk q) (g1 : SGd park σ1) (g2 : SGd park σ2) (h : quM q σ1 ++ s = quM q σ2 ++ t) : quM q σ1 = quM q σ2 ∧ s = t := by
  have key : quM q σ1 = quM q σ2 → quM q σ1 = quM q σ2 ∧ s = t := fun e => by
    rw [e] at h
    exact ⟨e, List.append_cancel_left h⟩
  rcases qu_form hq g1 with ⟨c1, n1, e1⟩ | ⟨a1, e1, N1, C1⟩
  · rcases qu_form hq g2 with ⟨c2, n2, e2⟩ | ⟨a2, e2, N2, C2⟩
    · rw [e1, e2] at h
      refine key ?_
      rw [e1, e2]
      simp only [List.cons_append, List.nil_append, List.cons.injEq] at h
      rw [h.1]
    · rw [e1, e2] at h
      simp only [List.cons_append, List.nil_append, List.cons.injEq] at h
      exact absurd h.1 n1
  · rcases qu_form hq g2 with ⟨c2, n2, e2⟩ | ⟨a2, e2, N2, C2⟩
    · rw [e1, e2] at h
      simp only [List.cons_append, List.nil_append, List.cons.injEq] at h
      exact absurd h.1.symm n2
    · have h' := h
      rw [e1, e2] at h'
      simp only [List.cons_append, List.nil_append, List.cons.injEq, true_and] at h'
      refine key ?_
      rw [e1, e2]
      rcases num_pf N1 N2 h' with ⟨r, e⟩ | ⟨r, e⟩
      · rw [Cl.eq C1 C2 e]
      · rw [Cl.eq C2 C1 e]
theorem qu_all (g1 : SGd park σ1) (g2 : SGd park σ2) : ∀ {L : List Rq} {s t : List Int}, (∀ q ∈ L, QOk q) → (L.flatMap fun q => quM q σ1) ++ s = (L.flatMap fun q => quM q σ2) ++ t → ∀ q ∈ L, quM q σ1 = quM q σ2
  | [], s, t, _, _, q, hq => by cases hq
  | x :: L, s, t, hL, h, q, hq => by
    rw [List.flatMap_cons, List.flatMap_cons, List.append_assoc, List.append_assoc] at h
    obtain ⟨e, h'⟩ := qu_pf (hL x List.mem_cons_self) g1 g2 h
    rcases List.mem_cons.1 hq with r | r
    · rw [r]; exact e
    · exact qu_all g1 g2 (fun y hy => hL y (List.mem_cons_of_mem _ hy)) h' q r
theorem valid_19 {now : Int} (h : q.op = 19) : valid park now q = if hasA park q.at' = true then 0 else 13 := by
  unfold valid
  rw [if_neg (by omega), if_neg (by omega), if_neg (by omega), if_neg (by omega), if_pos h]
/-- all answers alike: the same state -/
theorem obs_inj (g1 : SGd park σ1) (g2 : SGd park σ2) (h : ((obs σ1.now).flatMap fun q => quM q σ1) = (obs σ2.now).flatMap fun q => quM q σ2) : σ1.ms = σ2.ms := by
  have hmc : park.mc = 36 := rfl
  have hmb : park.mb = 26 := rfl
  have n1 := g1.now
  have n2 := g2.now
  have l1 := g1.len
  have l2 := g2.len
  rw [hmc] at n1 n2
  rw [hmb] at l1 l2
  have hclk : ∀ {σ : Sg}, quM (qq 20 0 0 0 0) σ = [0, 20] ++ (uI σ.now ++ uI (σ.now + 8 - 1) ++ uI ((σ.rs.length : Nat) : Int)) := fun {σ} => by
    unfold quM
    rw [if_pos (valid_0 (by decide) (by decide) (by decide) (by decide) (by decide) (by decide) (by decide))]
    exact eR_20 rfl rfl
  have hobs : ∀ now, obs now = qq 20 0 0 0 0 :: (qq 23 0 0 0 0 :: (List.range 28).flatMap obsI ++ (List.range 4).flatMap (obsA now)) := fun now => rfl
  have hnow : σ1.now = σ2.now := by
    rw [hobs, hobs, List.flatMap_cons, List.flatMap_cons] at h
    have e := (qu_pf (qok_none 20 (.inl rfl)) g1 g2 h).1
    rw [hclk, hclk] at e
    have e := List.append_cancel_left e
    rw [List.append_assoc, List.append_assoc] at e
    exact (uI_pf ⟨by omega, by omega⟩ ⟨by omega, by omega⟩ e).1
  rw [← hnow] at h
  have all := qu_all g1 g2 (L := obs σ1.now) (s := []) (t := []) (obs_ok ⟨by omega, by omega⟩) (by rw [h])
  have hget : ∀ i : Nat, i < 28 → quM (qq 16 (i : Nat) 0 0 0) σ1 = quM (qq 16 (i : Nat) 0 0 0) σ2 := fun i hi => all _ (by
    rw [hobs]
    refine List.mem_cons_of_mem _ (List.mem_cons_of_mem _ ?_)
    refine List.mem_append.2 (.inl (List.mem_flatMap.2 ⟨i, List.mem_range.2 hi, ?_⟩))
    exact List.mem_cons_self)
  have hline : ∀ a : Nat, a < 4 → quM (qq 19 0 (a : Nat) 0 0) σ1 = quM (qq 19 0 (a : Nat) 0 0) σ2 := fun a ha => all _ (by
    rw [hobs]
    refine List.mem_cons_of_mem _ (List.mem_cons_of_mem _ ?_)
    refine List.mem_append.2 (.inr (List.mem_flatMap.2 ⟨a, List.mem_range.2 ha, ?_⟩))
    exact List.mem_cons_self)
  have gform : ∀ {σ : Sg} (i : Nat), quM (qq 16 (i : Nat) 0 0 0) σ = if has σ.rs (i : Nat) then [0, 16] ++ (rowL (rget σ.rs (i : Nat))).flatMap uI else [2] := fun {σ} i => by
    unfold quM
    rw [if_pos (valid_0 (show (16 : Int) ≠ 1 by decide) (show (16 : Int) ≠ 22 by decide) (show (16 : Int) ≠ 5 by decide) (show (16 : Int) ≠ 6 by decide) (show (16 : Int) ≠ 21 by decide) (show (16 : Int) ≠ 18 by decide) (show (16 : Int) ≠ 19 by decide))]
    show eR (qGet (qq 16 (i : Nat) 0 0 0) σ) = _
    unfold qGet
    show eR (if has σ.rs ((i : Nat) : Int) then _ else _) = _
    by_cases hh : has σ.rs ((i : Nat) : Int)
    · rw [if_pos hh, if_pos hh, eR_16 rfl rfl, rowL_enc]; rfl
    · rw [if_neg hh, if_neg hh]; rfl
  have hrs : σ1.rs = σ2.rs := by
    have hlen : σ1.rs.length = σ2.rs.length := by
      have key : ∀ {a b : Sg}, ((a.rs.length : Nat) : Int) ≤ 26 → (∀ i : Nat, i < 28 → quM (qq 16 (i : Nat) 0 0 0) a = quM (qq 16 (i : Nat) 0 0 0) b) → a.rs.length ≤ b.rs.length := fun {a b} hl hg => by
        refine Nat.le_of_not_lt fun hlt => ?_
        have e := hg a.rs.length (by omega)
        rw [gform, gform, if_pos ⟨by omega, by omega⟩, if_neg (fun q => by have := q.2; omega)] at e
        cases e
      have a := key l1 hget
      have b := key l2 fun i hi => (hget i hi).symm
      omega
    refine List.ext_getElem hlen fun i h1 h2 => ?_
    have e := hget (i + 1) (by omega)
    rw [gform, gform, if_pos ⟨by omega, by omega⟩, if_pos ⟨by omega, by omega⟩, rget_at (i := i) rfl h1, rget_at (i := i) rfl h2] at e
    have e := List.append_cancel_left e
    have r1 := rowL_N (g1.rn _ (List.getElem_mem h1))
    have r2 := rowL_N (g2.rn _ (List.getElem_mem h2))
    rcases num_pf (s := []) (t := []) r1 r2 (by rw [e]) with ⟨r, er⟩ | ⟨r, er⟩
    · exact (row_pf (s := r) (t := []) (by rw [List.append_nil]; exact er.symm)).1
    · exact (row_pf (s := []) (t := r) (by rw [List.append_nil]; exact er)).1
  have hls : σ1.ls = σ2.ls := by
    have e1 : σ1.ls.length = 3 := g1.li.len
    have e2 : σ2.ls.length = 3 := g2.li.len
    refine List.ext_getElem (by omega) fun i h1 h2 => ?_
    have lform : ∀ {σ : Sg} (hi : i < σ.ls.length), i < 3 → quM (qq 19 0 (i : Nat) 0 0) σ = [0, 19] ++ ((((σ.ls[i].length : Nat) : Int)) :: σ.ls[i]).flatMap uI := fun {σ} hi h3 => by
      have ev : valid park σ.now (qq 19 0 (i : Nat) 0 0) = 0 := by
        have : hasA park ((i : Nat) : Int) = true := by
          unfold hasA
          have h3' : park.ats.length = 3 := rfl
          rw [h3', decide_eq_true (show (0 : Int) ≤ ((i : Nat) : Int) by omega), decide_eq_true (show ((i : Nat) : Int) < ((3 : Nat) : Int) by omega)]
          rfl
        exact (valid_19 rfl).trans (if_pos this)
      unfold quM
      rw [if_pos ev]
      show eR (qLine (qq 19 0 (i : Nat) 0 0) σ) = _
      unfold qLine
      rw [eR_19 rfl rfl]
      show [0, 19] ++ (uI (((lnOf σ.ls ((i : Nat) : Int)).length : Nat)) ++ encIds (lnOf σ.ls ((i : Nat) : Int))) = _
      rw [lnOf_at hi]
      rfl
    have e := hline i (by omega)
    rw [lform h1 (by omega), lform h2 (by omega)] at e
    have e := List.append_cancel_left e
    have N : ∀ {σ : Sg} (g : SGd park σ) (hi : i < σ.ls.length), ∀ x ∈ (((σ.ls[i].length : Nat) : Int)) :: σ.ls[i], N63 x := fun {σ} g hi x hx => by
      have gl := g.len
      rw [hmb] at gl
      have gm := g.li.mx _ (List.getElem_mem hi)
      have h4 : park.mx = 4 := rfl
      rw [h4] at gm
      rcases List.mem_cons.1 hx with r | r
      · rw [r]; exact ⟨by omega, by omega⟩
      · have := (g.li.at_ i hi x r).1
        exact ⟨by have := this.1; omega, by have := this.2; omega⟩
    have hc : Cl 19 ((((σ1.ls[i].length : Nat) : Int)) :: σ1.ls[i]) := .inr (.inr (.inl ⟨rfl, _, rfl⟩))
    have hc2 : Cl 19 ((((σ2.ls[i].length : Nat) : Int)) :: σ2.ls[i]) := .inr (.inr (.inl ⟨rfl, _, rfl⟩))
    have fin : (((σ1.ls[i].length : Nat) : Int)) :: σ1.ls[i] = (((σ2.ls[i].length : Nat) : Int)) :: σ2.ls[i] := by
      rcases num_pf (s := []) (t := []) (N g1 h1) (N g2 h2) (by rw [e]) with ⟨r, er⟩ | ⟨r, er⟩
      · exact Cl.eq hc hc2 er
      · exact (Cl.eq hc2 hc er).symm
    exact (List.cons.inj fin).2
  unfold Sg.ms
  rw [hnow, hrs, hls]
end
end Go.Proofs.Qxb6500896aGreat
