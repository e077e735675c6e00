import Derived.Test.Qxb6500896aGreatN29
namespace Go.Proofs.Qxb6500896aGreat
open Go.Sh Go.RowKit
set_option linter.unusedVariables false
set_option linter.unusedSimpArgs false

/-! ### a stream of frames -/
theorem scanG_app : ∀ {f i a : Nat} {s p : List Int}, (scanG f i a s).2.2 ≠ 1 → scanG f i a (s ++ p) = scanG f i a s
  | 0, i, a, s, p, _ => by cases s <;> cases p <;> rfl
  | f + 1, i, a, [], p, h => absurd rfl h
  | f + 1, i, a, b :: s, p, h => by
    rw [List.cons_append]
    unfold scanG at h ⊢
    by_cases h1 : b < 128
    · rw [if_pos h1, if_pos h1]
    · rw [if_neg h1] at h ⊢
      rw [if_neg h1]
      exact scanG_app h
theorem scan_app {s p : List Int} (h : (scan s).2.2 ≠ 1) : scan (s ++ p) = scan s := scanG_app h
theorem scanG_short : ∀ {f i a : Nat} {s : List Int}, (scanG f i a s).2.2 = 1 → s.length < f
  | 0, i, a, s, h => by
    exfalso
    have : scanG 0 i a s = (0, 0, 2) := by cases s <;> rfl
    rw [this] at h
    cases h
  | f + 1, i, a, [], h => by simp
  | f + 1, i, a, b :: s, h => by
    unfold scanG at h
    by_cases h1 : b < 128
    · rw [if_pos h1] at h
      split at h <;> cases h
    · rw [if_neg h1] at h
      have := scanG_short h
      rw [List.length_cons]
      omega
theorem scan_short {s : List Int} (h : (scan s).2.2 = 1) : s.length < 9 := scanG_short h
theorem scanG_take : ∀ {f i a : Nat} {s : List Int}, (scanG f i a s).2.2 = 0 → scanG f i a (s.take ((scanG f i a s).2.1 - i)) = scanG f i a s
  | 0, i, a, s, h => by
    exfalso
    have : scanG 0 i a s = (0, 0, 2) := by cases s <;> rfl
    rw [this] at h
    cases h
  | f + 1, i, a, [], h => by cases h
  | f + 1, i, a, b :: s, h => by
    have e0 : scanG (f + 1) i a (b :: s) = if b < 128 then (if b = 0 ∧ 0 < i then (0, 0, 2) else (a + b.toNat % 128 * 128 ^ i, i + 1, 0)) else scanG f (i + 1) (a + b.toNat % 128 * 128 ^ i) s := rfl
    by_cases h1 : b < 128
    · rw [if_pos h1] at e0
      by_cases h2 : b = 0 ∧ 0 < i
      · rw [if_pos h2] at e0; rw [e0] at h; cases h
      · rw [if_neg h2] at e0
        rw [e0]
        show scanG (f + 1) i a ((b :: s).take (i + 1 - i)) = _
        rw [show i + 1 - i = 1 by omega]
        show (if b < 128 then _ else _) = _
        rw [if_pos h1, if_neg h2]
    · rw [if_neg h1] at e0
      rw [e0] at h ⊢
      have hb := scanG_b h
      have ih := scanG_take h
      generalize scanG f (i + 1) (a + b.toNat % 128 * 128 ^ i) s = y at h hb ih ⊢
      rw [show y.2.1 - i = (y.2.1 - (i + 1)) + 1 by omega, List.take_succ_cons]
      show (if b < 128 then _ else _) = _
      rw [if_neg h1]
      exact ih
theorem scan_take {s : List Int} (h : (scan s).2.2 = 0) : scan (s.take (scan s).2.1) = scan s := by
  have := scanG_take (f := 9) (i := 0) (a := 0) h
  rw [Nat.sub_zero] at this
  exact this
theorem scan_9 {s : List Int} (h : (scan s).2.2 = 0) : (scan s).2.1 ≤ 9 := by
  have := scanG_b (f := 9) (i := 0) (a := 0) h
  unfold scan
  omega
theorem scanG_st : ∀ {f i a : Nat} {s : List Int}, (scanG f i a s).2.2 = 0 ∨ (scanG f i a s).2.2 = 1 ∨ (scanG f i a s).2.2 = 2
  | 0, i, a, s => by
    have : scanG 0 i a s = (0, 0, 2) := by cases s <;> rfl
    rw [this]; exact .inr (.inr rfl)
  | f + 1, i, a, [] => .inr (.inl rfl)
  | f + 1, i, a, b :: s => by
    have e0 : scanG (f + 1) i a (b :: s) = if b < 128 then (if b = 0 ∧ 0 < i then (0, 0, 2) else (a + b.toNat % 128 * 128 ^ i, i + 1, 0)) else scanG f (i + 1) (a + b.toNat % 128 * 128 ^ i) s := rfl
    rw [e0]
    split
    · split
      · exact .inr (.inr rfl)
      · exact .inl rfl
    · exact scanG_st
theorem scan_st {s : List Int} : (scan s).2.2 = 0 ∨ (scan s).2.2 = 1 ∨ (scan s).2.2 = 2 := scanG_st
/-- the frames of a stream, what is left, and whether the framing is lost -/
def Fr (s : List Int) (B : List (List Int)) (r : List Int) (b : Bool) : Prop :=
  ∀ Q : List Int → List (List Int) → List Int → Bool → Prop,
    (∀ s, (scan s).2.2 = 1 → Q s [] s false) →
    (∀ s, (scan s).2.2 = 2 → Q s [[]] [] true) →
    (∀ s, (scan s).2.2 = 0 → s.length < (scan s).2.1 + (scan s).1 → Q s [] s false) →
    (∀ s B r b, (scan s).2.2 = 0 → (scan s).2.1 + (scan s).1 ≤ s.length → Q (s.drop ((scan s).2.1 + (scan s).1)) B r b → Q s ((s.drop (scan s).2.1).take (scan s).1 :: B) r b) →
    Q s B r b
theorem Fr.short {s : List Int} (h : (scan s).2.2 = 1) : Fr s [] s false := fun Q q1 q2 q3 q4 => q1 s h
theorem Fr.bad {s : List Int} (h : (scan s).2.2 = 2) : Fr s [[]] [] true := fun Q q1 q2 q3 q4 => q2 s h
theorem Fr.part {s : List Int} (h : (scan s).2.2 = 0) (h1 : s.length < (scan s).2.1 + (scan s).1) : Fr s [] s false := fun Q q1 q2 q3 q4 => q3 s h h1
theorem Fr.frame {s : List Int} {B : List (List Int)} {r : List Int} {b : Bool} (h : (scan s).2.2 = 0) (h1 : (scan s).2.1 + (scan s).1 ≤ s.length) (h2 : Fr (s.drop ((scan s).2.1 + (scan s).1)) B r b) : Fr s ((s.drop (scan s).2.1).take (scan s).1 :: B) r b := fun Q q1 q2 q3 q4 => q4 s B r b h h1 (h2 Q q1 q2 q3 q4)
/-- how a stream begins -/
theorem Fr.inv {s : List Int} {B : List (List Int)} {r : List Int} {b : Bool} (h : Fr s B r b) : ((scan s).2.2 = 1 ∧ B = []) ∨ ((scan s).2.2 = 2 ∧ B = [[]]) ∨ ((scan s).2.2 = 0 ∧ s.length < (scan s).2.1 + (scan s).1 ∧ B = []) ∨ ∃ B', (scan s).2.2 = 0 ∧ (scan s).2.1 + (scan s).1 ≤ s.length ∧ Fr (s.drop ((scan s).2.1 + (scan s).1)) B' r b ∧ B = (s.drop (scan s).2.1).take (scan s).1 :: B' := by
  refine (h (fun s B r b => Fr s B r b ∧ (((scan s).2.2 = 1 ∧ B = []) ∨ ((scan s).2.2 = 2 ∧ B = [[]]) ∨ ((scan s).2.2 = 0 ∧ s.length < (scan s).2.1 + (scan s).1 ∧ B = []) ∨ ∃ B', (scan s).2.2 = 0 ∧ (scan s).2.1 + (scan s).1 ≤ s.length ∧ Fr (s.drop ((scan s).2.1 + (scan s).1)) B' r b ∧ B = (s.drop (scan s).2.1).take (scan s).1 :: B')) ?_ ?_ ?_ ?_).2
  · exact fun s h => ⟨Fr.short h, .inl ⟨h, rfl⟩⟩
  · exact fun s h => ⟨Fr.bad h, .inr (.inl ⟨h, rfl⟩)⟩
  · exact fun s h h1 => ⟨Fr.part h h1, .inr (.inr (.inl ⟨h, h1, rfl⟩))⟩
  · exact fun s B r b h h1 ih => ⟨Fr.frame h h1 ih.1, .inr (.inr (.inr ⟨B, h, h1, ih.1, rfl⟩))⟩
theorem Fr.app {s : List Int} {B : List (List Int)} {r : List Int} {b : Bool} (h : Fr s B r b) : b = false → ∀ {p B' r' b'}, Fr (r ++ p) B' r' b' → Fr (s ++ p) (B ++ B') r' b' := by
  refine h (fun s B r b => b = false → ∀ {p B' r' b'}, Fr (r ++ p) B' r' b' → Fr (s ++ p) (B ++ B') r' b') ?_ ?_ ?_ ?_
  · intro s h _ p B' r' b' h'; exact h'
  · intro s h e; cases e
  · intro s h h1 _ p B' r' b' h'; exact h'
  · intro s B r b h h1 ih e p B' r' b' h'
    have e1 : scan (s ++ p) = scan s := scan_app (by rw [h]; decide)
    have h3 := ih e h'
    rw [← List.drop_append_of_le_length h1] at h3
    have h4 := Fr.frame (s := s ++ p) (by rw [e1]; exact h) (by rw [e1, List.length_append]; omega) (by rw [e1]; exact h3)
    rw [e1] at h4
    have hw : (scan s).2.1 ≤ s.length := by omega
    rw [List.drop_append_of_le_length hw, List.take_append_of_le_length (by rw [List.length_drop]; omega)] at h4
    exact h4
theorem Fr.lost {s : List Int} {B : List (List Int)} {r : List Int} {b : Bool} (h : Fr s B r b) : b = true → ∀ {p}, Fr (s ++ p) B r true := by
  refine h (fun s B r b => b = true → ∀ {p}, Fr (s ++ p) B r true) ?_ ?_ ?_ ?_
  · intro s h e; cases e
  · intro s h _ p
    have e1 : scan (s ++ p) = scan s := scan_app (by rw [h]; decide)
    exact Fr.bad (by rw [e1]; exact h)
  · intro s h h1 e; cases e
  · intro s B r b h h1 ih e p
    have e1 : scan (s ++ p) = scan s := scan_app (by rw [h]; decide)
    have h3 := ih e (p := p)
    rw [← List.drop_append_of_le_length h1] at h3
    have h4 := Fr.frame (s := s ++ p) (by rw [e1]; exact h) (by rw [e1, List.length_append]; omega) (by rw [e1]; exact h3)
    rw [e1] at h4
    have hw : (scan s).2.1 ≤ s.length := by omega
    rw [List.drop_append_of_le_length hw, List.take_append_of_le_length (by rw [List.length_drop]; omega)] at h4
    exact h4
/-- the bodies together are no longer than the stream -/
theorem Fr.len {s : List Int} {B : List (List Int)} {r : List Int} {b : Bool} (h : Fr s B r b) : B.length ≤ s.length + 1 := by
  refine h (fun s B r b => B.length ≤ s.length + 1) ?_ ?_ ?_ ?_
  · intro s h; simp
  · intro s h; simp
  · intro s h h1; simp
  · intro s B r b h h1 ih
    have hb := scan_b h
    rw [List.length_drop] at ih
    rw [List.length_cons]
    omega
/-- a buffer and what is still to be passed over, as a stream -/
def VR (R d : List Int) (skip : Int) : Prop := (skip = 0 ∧ R = d) ∨ (0 < skip ∧ ∃ h, R = h ++ d ∧ (scan h).2.2 = 0 ∧ (scan h).2.1 ≤ h.length ∧ 172 < (scan h).1 ∧ ((h.length : Nat) : Int) + skip = (((scan h).2.1 + (scan h).1 : Nat) : Int))
theorem VR.app {R d p : List Int} {skip : Int} (h : VR R d skip) : VR (R ++ p) (d ++ p) skip := by
  rcases h with ⟨a, b⟩ | ⟨a, h, b, c⟩
  · exact .inl ⟨a, by rw [b]⟩
  · exact .inr ⟨a, h, by rw [b, List.append_assoc], c⟩
/-- a buffer that waits -/
def Wt (d : List Int) (skip : Int) : Prop := (skip = 0 ∧ d.length ≤ 181) ∨ d = []
/-- a frame that cannot be a request, as an empty one -/
def nb (b : List Int) : List Int := if 172 < b.length then [] else b
/-- how far the frames of a buffer go -/
structure Sp (R0 : List Int) (Bd : List (List Int)) (R d : List Int) (skip : Int) : Prop where
  f : ∀ {B r b}, Fr R B r b → Fr R0 (Bd ++ B) r b
  v : VR R d skip
theorem Sp.frame {R0 R : List Int} {Bd : List (List Int)} {d : List Int} (h : Sp R0 Bd R d 0) (h0 : (scan d).2.2 = 0) (h1 : (scan d).2.1 + (scan d).1 ≤ d.length) : Sp R0 (Bd ++ [(d.drop (scan d).2.1).take (scan d).1]) (d.drop ((scan d).2.1 + (scan d).1)) (d.drop ((scan d).2.1 + (scan d).1)) 0 := by
  have e : R = d := by
    rcases h.v with ⟨_, e⟩ | ⟨a, _⟩
    · exact e
    · omega
  refine ⟨fun {B r b} hf => ?_, .inl ⟨rfl, rfl⟩⟩
  rw [List.append_assoc]
  exact h.f (by rw [e]; exact Fr.frame h0 h1 hf)
theorem Sp.long {R0 R : List Int} {Bd : List (List Int)} {d : List Int} (h : Sp R0 Bd R d 0) (h0 : (scan d).2.2 = 0) (h1 : 172 < (scan d).1) : Sp R0 Bd R (d.drop (scan d).2.1) (((scan d).1 : Nat) : Int) := by
  have e : R = d := by
    rcases h.v with ⟨_, e⟩ | ⟨a, _⟩
    · exact e
    · omega
  have hb := scan_b h0
  have et := scan_take h0
  have hl : (d.take (scan d).2.1).length = (scan d).2.1 := by rw [List.length_take]; omega
  refine ⟨h.f, .inr ⟨by omega, d.take (scan d).2.1, by rw [e, List.take_append_drop], by rw [et]; exact h0, by rw [et]; omega, by rw [et]; exact h1, by rw [et, hl]; omega⟩⟩
/-- a long frame has passed -/
theorem Sp.past {R0 R : List Int} {Bd : List (List Int)} {d : List Int} {skip : Int} (h : Sp R0 Bd R d skip) (h0 : 0 < skip) (h1 : skip ≤ ((d.length : Nat) : Int)) : ∃ x, nb x = [] ∧ Sp R0 (Bd ++ [x]) (d.drop skip.toNat) (d.drop skip.toNat) 0 := by
  rcases h.v with ⟨a, _⟩ | ⟨_, hh, e, s0, s1, s2, s3⟩
  · omega
  · have es : scan R = scan hh := by rw [e]; exact scan_app (by rw [s0]; decide)
    have hlR : R.length = hh.length + d.length := by rw [e, List.length_append]
    have h2 : (scan R).2.1 + (scan R).1 ≤ R.length := by rw [es]; omega
    have hdr : R.drop ((scan R).2.1 + (scan R).1) = d.drop skip.toNat := by
      rw [es, e, show (scan hh).2.1 + (scan hh).1 = hh.length + skip.toNat by omega, ← List.drop_drop, List.drop_left']
      rfl
    refine ⟨(R.drop (scan R).2.1).take (scan R).1, ?_, fun {B r b} hf => ?_, .inl ⟨rfl, rfl⟩⟩
    · unfold nb
      rw [if_pos]
      rw [List.length_take, List.length_drop, es]
      have : (scan R).2.1 + (scan R).1 ≤ R.length := h2
      rw [es] at this
      omega
    · rw [List.append_assoc]
      refine h.f (Fr.frame (by rw [es]; exact s0) h2 ?_)
      rw [hdr]
      exact hf
/-- a long frame has not passed yet -/
theorem Sp.wait {R0 R : List Int} {Bd : List (List Int)} {d : List Int} {skip : Int} (h : Sp R0 Bd R d skip) (h0 : 0 < skip) (h1 : ((d.length : Nat) : Int) < skip) : Fr R0 Bd R false ∧ VR R [] (skip - ((d.length : Nat) : Int)) := by
  rcases h.v with ⟨a, _⟩ | ⟨_, hh, e, s0, s1, s2, s3⟩
  · omega
  · have es : scan R = scan hh := by rw [e]; exact scan_app (by rw [s0]; decide)
    have hlR : R.length = hh.length + d.length := by rw [e, List.length_append]
    refine ⟨?_, .inr ⟨by omega, R, by rw [List.append_nil], by rw [es]; exact s0, by rw [es]; omega, by rw [es]; exact s2, by rw [es, hlR]; omega⟩⟩
    have := h.f (Fr.part (s := R) (by rw [es]; exact s0) (by rw [es]; omega))
    rw [List.append_nil] at this
    exact this
theorem Sp.stop {R0 R : List Int} {Bd : List (List Int)} {d : List Int} (h : Sp R0 Bd R d 0) (hs : (scan d).2.2 = 1 ∨ ((scan d).2.2 = 0 ∧ d.length < (scan d).2.1 + (scan d).1)) : Fr R0 Bd d false ∧ VR d d 0 := by
  have e : R = d := by
    rcases h.v with ⟨_, e⟩ | ⟨a, _⟩
    · exact e
    · omega
  refine ⟨?_, .inl ⟨rfl, rfl⟩⟩
  rcases hs with q | ⟨q, q2⟩
  · have := h.f (by rw [e]; exact Fr.short q)
    rw [List.append_nil] at this
    exact this
  · have := h.f (by rw [e]; exact Fr.part q q2)
    rw [List.append_nil] at this
    exact this
theorem Sp.bad {R0 R : List Int} {Bd : List (List Int)} {d : List Int} (h : Sp R0 Bd R d 0) (hs : (scan d).2.2 = 2) : Fr R0 (Bd ++ [[]]) [] true := by
  have e : R = d := by
    rcases h.v with ⟨_, e⟩ | ⟨a, _⟩
    · exact e
    · omega
  exact h.f (by rw [e]; exact Fr.bad hs)
/-! ### requests that are too long -/
theorem nm_len : ∀ {f : Nat} {bs l : List Int}, numsF f bs = some l → bs.length ≤ 9 * l.length
  | f, [], l, h => by simp
  | 0, b :: bs, l, h => by cases h
  | f + 1, b :: bs, l, h => by
    rw [numsF] at h
    split at h
    · rename_i q
      obtain ⟨y, hy, e⟩ := Option.map_eq_some_iff.1 h
      have ih := nm_len hy
      have h9 := scan_9 q
      have hb := scan_b q
      rw [← e]
      rw [List.length_drop] at ih
      simp only [List.length_cons] at ih hb ⊢
      omega
    · cases h
theorem mOp_len {b : Int} {fl : List Int} {q : Rq} (h : mOp b fl = some q) : fl.length ≤ 19 := by
  have hl : ∀ {k : Nat}, lsted fl k = true → fl.length ≤ k + 17 := fun {k} h => (lsted_len h).2
  unfold mOp at h
  split at h
  · split at h
    · rename_i q1; have := hl q1; omega
    · cases h
  split at h
  · split at h
    · rename_i q1; have := hl q1; omega
    · cases h
  repeat' (split at h)
  all_goals first | omega | cases h
theorem mRead_long {bs : List Int} (h : 172 < bs.length) : mRead bs = none := by
  cases bs with
  | nil => rfl
  | cons b r =>
    show (nmL r).bind (mOp b) = none
    cases hn : nmL r with
    | none => rfl
    | some fl =>
      show mOp b fl = none
      cases hm : mOp b fl with
      | none => rfl
      | some q =>
        exfalso
        have h1 := mOp_len hm
        have h2 := nm_len (f := r.length) hn
        rw [List.length_cons] at h
        omega
theorem mdS_nb {b : List Int} {σ : Sg} : mdS (nb b) σ = mdS b σ := by
  unfold nb
  split
  · rename_i h
    unfold mdS
    rw [mRead_long h]
    rfl
  · rfl
/-- a run of the model: requests, framed replies -/
def Rn : List (List Int) → Ms → List Int → Ms → Prop
  | [], s, out, s' => out = [] ∧ s' = s
  | b :: l, s, out, s' => ∃ σ, SGd park σ ∧ σ.ms = s ∧ ∃ out', out = uI (((mdS b σ).2.length : Nat) : Int) ++ (mdS b σ).2 ++ out' ∧ Rn l (mdS b σ).1.ms out' s'
theorem Rn.app : ∀ {B1 B2 : List (List Int)} {s s1 s2 : Ms} {o1 o2 : List Int}, Rn B1 s o1 s1 → Rn B2 s1 o2 s2 → Rn (B1 ++ B2) s (o1 ++ o2) s2
  | [], B2, s, s1, s2, o1, o2, ⟨h1, h2⟩, h => by subst h1; subst h2; exact h
  | b :: l, B2, s, s1, s2, o1, o2, ⟨σ, g, e, o', e2, h1⟩, h => by
    subst e2
    exact ⟨σ, g, e, o' ++ o2, by simp only [List.append_assoc], Rn.app h1 h⟩
theorem Rn.nb : ∀ {B : List (List Int)} {s s1 : Ms} {o : List Int}, Rn (B.map Go.Proofs.Qxb6500896aGreat.nb) s o s1 → Rn B s o s1
  | [], s, s1, o, h => h
  | b :: l, s, s1, o, ⟨σ, g, e, o', e2, h1⟩ => by
    rw [mdS_nb] at e2 h1
    exact ⟨σ, g, e, o', e2, Rn.nb h1⟩
end Go.Proofs.Qxb6500896aGreat
