/-
  Operations that leave the world alone: what they yield in one world they yield in every world that has grown from it.
-/
import Derived.Test.Qxb6500896aGreatDoorShMix
namespace Go.Sh
open Go.RowKit
set_option linter.unusedVariables false
set_option linter.unusedSimpArgs false

def StillX (X : (Value → World → Prop) → World → Prop) : Prop :=
  ∀ (w0 : World) (k : Value → Prop), X (fun v _ => k v) w0 → ∃ v, (∀ w, Below w0.heap.size w0 w → X (fun v' w' => v' = v ∧ w' = w) w) ∧ k v

theorem still_cell {w0 w : World} {a : Addr} {v : Value} (hb : Below w0.heap.size w0 w) (h : w0.cell? a = some v) : w.cell? a = some v := by
  rw [hb.cell (World.block_lt_of_cell? w0 a h)]; exact h

theorem still_ldc {w0 : World} {a : Addr} : ∀ (n i : Nat) (k : List Value → Prop), ldc a w0 i n k →
    ∃ vs, (∀ w (k' : List Value → Prop), Below w0.heap.size w0 w → k' vs → ldc a w i n k') ∧ k vs
  | 0, i, k, h => ⟨[], fun _ _ _ h => h, h⟩
  | n + 1, i, k, ⟨v, hv, h⟩ => by
    obtain ⟨vs, h1, h2⟩ := still_ldc n (i + 1) _ h
    exact ⟨v :: vs, fun w k' hb hk => ⟨v, still_cell hb hv, h1 w _ hb hk⟩, h2⟩

theorem still_const {v0 : Value} : StillX (fun K w => K v0 w) := fun w0 k h => ⟨v0, fun w _ => ⟨rfl, rfl⟩, h⟩
theorem still_ld1 {a : Value} : StillX (ld1 a) := by
  intro w0 k h
  cases a with
  | pointer o => cases o with
    | none => exact h.elim
    | some ad => obtain ⟨v, hv, hk⟩ := h; exact ⟨v, fun w hb => ⟨v, still_cell hb hv, rfl, rfl⟩, hk⟩
  | _ => exact h.elim
theorem still_ldn {n : Nat} {a : Value} : StillX (ldn n a) := by
  intro w0 k h
  replace h := h.go
  cases a with
  | pointer o => cases o with
    | none => exact h.elim
    | some ad =>
      obtain ⟨vs, h1, h2⟩ := still_ldc n 0 _ h
      exact ⟨.agg vs.toArray, fun w hb => ⟨h1 w _ hb ⟨rfl, rfl⟩⟩, h2⟩
  | _ => exact h.elim
theorem still_fd {n : Nat} {a : Value} : StillX (fd n a) := by
  intro w0 k h
  cases a with
  | pointer o => cases o with
    | none => exact h.elim
    | some ad => exact ⟨_, fun w hb => ⟨rfl, rfl⟩, h⟩
  | _ => exact h.elim
theorem still_ixs {n : Nat} {a i : Value} : StillX (ixs n a i) := by
  intro w0 k h
  cases a with
  | slice o l c => cases o with
    | none => exact h.elim
    | some ad => cases i with
      | int q m => exact ⟨_, fun w hb => ⟨h.1, rfl, rfl⟩, h.2⟩
      | _ => exact h.elim
  | _ => exact h.elim
theorem still_ixa {l n : Nat} {a i : Value} : StillX (ixa l n a i) := by
  intro w0 k h
  cases a with
  | pointer o => cases o with
    | none => exact h.elim
    | some ad => cases i with
      | int q m => exact ⟨_, fun w hb => ⟨h.1, rfl, rfl⟩, h.2⟩
      | _ => exact h.elim
  | _ => exact h.elim
theorem still_nck {a : Value} : StillX (nck a) := by
  intro w0 k h
  cases a with
  | pointer o => cases o with
    | none => exact h.elim
    | some ad => exact ⟨_, fun w hb => ⟨rfl, rfl⟩, h⟩
  | _ => exact h.elim
theorem still_pk {c a b : Value} : StillX (pk c a b) := by
  intro w0 k h
  cases c with
  | bool t => exact ⟨_, fun w hb => ⟨rfl, rfl⟩, h⟩
  | _ => exact h.elim
theorem still_pv {o : Option Value} : StillX (pv o) := by
  intro w0 k h
  cases o with
  | none => exact h.elim
  | some v => exact ⟨_, fun w hb => ⟨rfl, rfl⟩, h⟩
theorem still_bdq {z : List Value} {ps : List (Option (Nat × Nat) × Value)} : StillX (bdq z ps) := by
  intro w0 k h
  replace h := h.go
  cases e : fillL z ps with
  | none => rw [e] at h; exact h.elim
  | some l => rw [e] at h; exact ⟨_, fun w hb => ⟨by rw [e]; exact ⟨rfl, rfl⟩⟩, h⟩
theorem still_exq {x : Value} {i : Nat} : StillX (exq x i) := by
  cases x with
  | tuple vs => exact still_pv
  | _ => exact fun w0 k h => h.elim
theorem still_boI {op : BinOp} {a b : Value} : StillX (boI op a b) := by
  intro w0 k h
  cases a with
  | int q m => cases b with
    | int r n => cases op <;> exact ⟨_, fun w hb => ⟨h.1, rfl, rfl⟩, h.2⟩
    | _ => exact h.elim
  | _ => exact h.elim
theorem still_boS {op : BinOp} {a b : Value} : StillX (boS op a b) := by
  intro w0 k h
  cases a with
  | string m => cases b with
    | string n => cases op <;> first | exact h.elim | exact ⟨_, fun w hb => ⟨rfl, rfl⟩, h⟩ | exact ⟨_, fun w hb => ⟨h.1, rfl, rfl⟩, h.2⟩
    | _ => exact h.elim
  | _ => exact h.elim
theorem still_boB {op : BinOp} {a b : Value} : StillX (boB op a b) := by
  intro w0 k h
  cases op <;> first | exact h.elim | (cases a <;> first | exact h.elim | (cases b <;> first | exact h.elim | exact ⟨_, fun w hb => ⟨rfl, rfl⟩, h⟩))
theorem still_boP {op : BinOp} {a b : Value} : StillX (boP op a b) := by
  intro w0 k h
  cases op <;> first | exact h.elim | (cases a <;> first | exact h.elim | (rename_i o; cases o <;> cases b <;> first | exact h.elim | exact ⟨_, fun w hb => ⟨rfl, rfl⟩, h⟩ | (rename_i q; cases q <;> first | exact h.elim | exact ⟨_, fun w hb => ⟨rfl, rfl⟩, h⟩)))
theorem still_boZ {op : BinOp} {a b : Value} : StillX (boZ op a b) := by
  intro w0 k h
  cases op <;> first | exact h.elim | (cases a <;> first | exact h.elim | (rename_i o _ _; cases o <;> cases b <;> first | exact h.elim | exact ⟨_, fun w hb => ⟨rfl, rfl⟩, h⟩ | (rename_i q _ _; cases q <;> first | exact h.elim | exact ⟨_, fun w hb => ⟨rfl, rfl⟩, h⟩)))
theorem still_boF {P : Program} {c : Bool} {op : BinOp} {a b : Value} : StillX (boF P c op a b) := by
  intro w0 k h
  cases op <;> first | exact h.elim | (cases a <;> first | exact h.elim | (cases b <;> first | exact h.elim | (obtain ⟨r, h1, h2⟩ := boE_still (P := P) (F := fun b => k (.bool b)) h; exact ⟨.bool r, fun w hb => h1 (fun b => (Value.bool b = Value.bool r ∧ w = w)) ⟨rfl, rfl⟩, h2⟩) | (obtain ⟨r, h1, h2⟩ := boE_still (P := P) (F := fun b => k (.bool (!b))) h; exact ⟨.bool (!r), fun w hb => h1 (fun b => (Value.bool (!b) = Value.bool (!r) ∧ w = w)) ⟨rfl, rfl⟩, h2⟩) | exact ⟨_, fun w hb => ⟨rfl, rfl⟩, h⟩ | exact ⟨_, fun w hb => ⟨h.1, rfl, rfl⟩, h.2⟩))
theorem still_cvi {q : IntKind} {x : Value} : StillX (cvi q x) := by
  intro w0 k h
  cases x with
  | int _ n => exact ⟨_, fun w hb => ⟨rfl, rfl⟩, h⟩
  | _ => exact h.elim
theorem still_taq {u : TypeId} {z : Value} {ok : Bool} {x : Value} : StillX (taq u z ok x) := by
  intro w0 k h
  cases x with
  | iface t v =>
    unfold taq at *
    dsimp only at *
    by_cases e : t = u
    · rw [if_pos e] at h; exact ⟨_, fun w hb => by rw [if_pos e]; exact ⟨rfl, rfl⟩, h⟩
    · rw [if_neg e] at h; exact ⟨_, fun w hb => by rw [if_neg e]; exact ⟨h.1, rfl, rfl⟩, h.2⟩
  | nilIface => exact ⟨_, fun w hb => ⟨h.1, rfl, rfl⟩, h.2⟩
  | _ => exact h.elim
theorem still_lnS {x : Value} : StillX (lnS x) := by
  intro w0 k h
  cases x with
  | slice a n c => exact ⟨_, fun w hb => ⟨rfl, rfl⟩, h⟩
  | _ => exact h.elim
theorem still_lnT {x : Value} : StillX (lnT x) := by
  intro w0 k h
  cases x with
  | string s => exact ⟨_, fun w hb => ⟨rfl, rfl⟩, h⟩
  | _ => exact h.elim
theorem still_cpS {x : Value} : StillX (cpS x) := by
  intro w0 k h
  cases x with
  | slice a n c => exact ⟨_, fun w hb => ⟨rfl, rfl⟩, h⟩
  | _ => exact h.elim
theorem still_sls {n : Nat} {x : Value} {lo hi : Option Value} : StillX (sls n x lo hi) := by
  intro w0 k h
  cases x with
  | slice a len cap =>
    unfold sls at *
    dsimp only at *
    cases e1 : bv lo 0 with
    | none => rw [e1] at h; exact h.elim
    | some l => cases e2 : bv hi len with
      | none => rw [e1, e2] at h; exact h.elim
      | some m => rw [e1, e2] at h; exact ⟨_, fun w hb => ⟨h.1, rfl, rfl⟩, h.2⟩
  | _ => exact h.elim
theorem still_sla {n m : Nat} {x : Value} {lo hi : Option Value} : StillX (sla n m x lo hi) := by
  intro w0 k h
  cases x with
  | pointer o => cases o with
    | none => exact h.elim
    | some a =>
      unfold sla at *
      dsimp only at *
      cases e1 : bv lo 0 with
      | none => rw [e1] at h; exact h.elim
      | some l => cases e2 : bv hi n with
        | none => rw [e1, e2] at h; exact h.elim
        | some m => rw [e1, e2] at h; exact ⟨_, fun w hb => ⟨h.1, rfl, rfl⟩, h.2⟩
  | _ => exact h.elim
theorem still_slt {x : Value} {lo hi : Option Value} : StillX (slt x lo hi) := by
  intro w0 k h
  cases x with
  | string s =>
    unfold slt at *
    dsimp only at *
    cases e1 : bv lo 0 with
    | none => rw [e1] at h; exact h.elim
    | some l => cases e2 : bv hi s.size with
      | none => rw [e1, e2] at h; exact h.elim
      | some m => rw [e1, e2] at h; exact ⟨_, fun w hb => ⟨h.1, rfl, rfl⟩, h.2⟩
  | _ => exact h.elim
theorem still_gd {g : Value} {want : Bool} {X : (Value → World → Prop) → World → Prop} (hX : StillX X) : StillX (gd g want X) := by
  intro w0 k h
  have h := h.out
  cases g with
  | bool b =>
    unfold gdp at h
    dsimp only at h
    cases e : (b == want) with
    | true =>
      rw [e] at h
      obtain ⟨v, h1, h2⟩ := hX w0 k h
      exact ⟨v, fun w hb => ⟨by unfold gdp; dsimp only; rw [e]; exact h1 w hb⟩, h2⟩
    | false => rw [e] at h; exact ⟨undef, fun w hb => ⟨by unfold gdp; dsimp only; rw [e]; exact ⟨rfl, rfl⟩⟩, h⟩
  | _ => exact ⟨undef, fun w hb => ⟨⟨rfl, rfl⟩⟩, h⟩

/-- an operation that leaves the world alone, whatever its operands -/
def nice (P : Program) (o : Oper) : Bool :=
  match o.op with
  | .move _ => true
  | .assign _ => true
  | .pick _ _ _ => true
  | .load _ _ => true
  | .nilCheck _ => true
  | .unOp _ _ _ => true
  | .build _ _ => true
  | .extract _ _ => true
  | .fieldAddr _ _ _ => true
  | .indexAddr _ _ _ => true
  | .makeInterface _ _ => true
  | .makeFunc _ _ _ => true
  | .slice _ _ _ _ mx => mx.isNone
  | .binOp _ t _ _ _ => match P.underlying t with
    | some (.int _) => true
    | some .string => true
    | some .bool => true
    | some (.pointer _) => true
    | some (.slice _) => true
    | some (.interface _) => true
    | _ => false
  | .convert a b _ => match P.underlying a, P.underlying b with
    | some (.int _), some (.int _) => true
    | _, _ => false
  | .typeAssert _ _ u _ => match P.underlying u with
    | none => false
    | some (.interface _) => false
    | some _ => true
  | .call c => match c.callee with
    | .builtin .len => match c.argTypes.toList with
      | [u] => match P.underlying u with
        | some (.slice _) => true
        | some .string => true
        | some (.array _ _) => true
        | _ => false
      | _ => false
    | .builtin .cap => match c.argTypes.toList with
      | [u] => match P.underlying u with
        | some (.slice _) => true
        | _ => false
      | _ => false
    | _ => false
  | _ => false

theorem still_False : StillX (fun _ _ => False) := fun _ _ h => h.elim

theorem still_dop {P : Program} {s : Nat → Value} {o : Oper} (h : nice P o = true) : StillX (dop P s o) := by
  obtain ⟨dst, op, type, pos, after, guard⟩ := o
  cases op <;> simp only [nice, Bool.false_eq_true] at h
  case move x => exact still_const
  case assign x => exact still_const
  case pick c a b => exact still_pk
  case load t a =>
    intro w0 k hh
    simp only [dop, ld] at *
    cases e : tyK P t with
    | none => rw [e] at hh; exact hh.elim
    | some q =>
      rw [e] at hh
      cases q with
      | none => exact still_ld1 w0 k hh
      | some n => exact still_ldn w0 k hh
  case nilCheck x => exact still_nck
  case unOp op t x => exact still_pv
  case build t ps =>
    intro w0 k hh
    simp only [dop, bd] at *
    cases e1 : zeroOf P t with
    | none => rw [e1] at hh; exact hh.elim
    | some z => cases e2 : plc P t with
      | none => rw [e1, e2] at hh; exact hh.elim
      | some pl => rw [e1, e2] at hh; exact still_bdq w0 k hh
  case extract x i => exact still_exq
  case fieldAddr t x f =>
    intro w0 k hh
    simp only [dop, fa] at *
    cases e : foff P t f with
    | none => rw [e] at hh; exact hh.elim
    | some n => rw [e] at hh; exact still_fd w0 k hh
  case indexAddr t x i =>
    intro w0 k hh
    simp only [dop, ix] at *
    split at hh
    · split at hh
      · exact still_ixs w0 k hh
      · exact hh.elim
    · split at hh
      · exact still_ixa w0 k hh
      · exact hh.elim
    · exact hh.elim
  case makeFunc fn fs cs =>
    intro w0 k hh
    simp only [dop] at *
    exact ⟨_, fun w hb => ⟨rfl, trivial⟩, hh⟩
  case makeInterface t x =>
    intro w0 k hh
    simp only [dop, mi] at *
    split at hh
    · exact hh.elim
    · exact hh.elim
    · exact ⟨_, fun w hb => ⟨rfl, trivial⟩, hh⟩
  case slice t x lo hi mx =>
    cases mx with
    | some _ => simp at h
    | none =>
      intro w0 k hh
      simp only [dop, sl, Option.map_none] at *
      split at hh
      · split at hh
        · exact still_sls w0 k hh
        · exact hh.elim
      · split at hh
        · exact still_sla w0 k hh
        · exact hh.elim
      · exact still_slt w0 k hh
      · exact hh.elim
  case binOp op t x y u =>
    intro w0 k hh
    simp only [dop, bo] at *
    split at hh
    · exact still_boI w0 k hh
    · exact still_boS w0 k hh
    · exact still_boB w0 k hh
    · exact still_boP w0 k hh
    · exact still_boZ w0 k hh
    · exact still_boF w0 k hh
    · rename_i h1 h2 h3 h4 h5 h6
      split at h
      all_goals first | (rename_i e; exact absurd e (h1 _)) | (rename_i e; exact absurd e h2) | (rename_i e; exact absurd e h3) | (rename_i e; exact absurd e (h4 _)) | (rename_i e; exact absurd e (h5 _)) | (rename_i e; exact absurd e (h6 _)) | cases h
  case convert a b x =>
    intro w0 k hh
    simp only [dop, cv] at *
    split at hh
    · exact still_cvi w0 k hh
    · rename_i hne
      split at h
      · rename_i e1 e2; exact (hne _ _ e1 e2).elim
      · cases h
  case typeAssert x t u ok =>
    intro w0 k hh
    simp only [dop, ta] at *
    split at hh
    · exact hh.elim
    · rename_i e; simp only [e] at h; cases h
    · split at hh
      · exact still_taq w0 k hh
      · exact hh.elim
  case call c =>
    obtain ⟨callee, args, ats⟩ := c
    cases callee with
    | value f => simp at h
    | invoke r m => simp at h
    | builtin b =>
      cases b <;> simp at h
      case len =>
        intro w0 k hh
        simp only [dop, bi, ln] at *
        split at hh
        · rename_i u x e1 e2
          rw [e1] at h
          simp only at h
          split at hh
          · exact still_lnS w0 k hh
          · exact still_lnT w0 k hh
          · exact ⟨_, fun w hb => ⟨rfl, trivial⟩, hh⟩
          · rename_i h1 h2 h3
            split at h
            · rename_i e; exact absurd e (h1 _)
            · rename_i e; exact absurd e h2
            · rename_i e; exact absurd e (h3 _ _)
            · cases h
        · exact hh.elim
      case cap =>
        intro w0 k hh
        simp only [dop, bi, cpc] at *
        split at hh
        · rename_i u x e1 e2
          rw [e1] at h
          simp only at h
          split at hh
          · exact still_cpS w0 k hh
          · rename_i h1
            split at h
            · rename_i e; exact absurd e (h1 _)
            · cases h
        · exact hh.elim

theorem still_dog {P : Program} {ops : Array Oper} {s : Nat → Value} {o : Oper} (h : nice P o = true) : StillX (dog P ops s o) := by
  intro w0 k hh
  unfold dog at *
  cases hg : o.guard with
  | none => rw [hg] at hh; exact still_dop h w0 k hh
  | some g =>
    obtain ⟨j, want⟩ := g
    rw [hg] at hh
    simp only at *
    cases hd : (ops[j]?).bind (·.dst) with
    | none => rw [hd] at hh; exact ⟨undef, fun w hb => ⟨rfl, trivial⟩, hh⟩
    | some d => rw [hd] at hh; exact still_gd (still_dop h) w0 k hh

/-! ### operations that do not even look at memory -/
def StiffX (X : (Value → World → Prop) → World → Prop) : Prop :=
  ∀ (w0 : World) (k : Value → Prop), X (fun v _ => k v) w0 → ∃ v, (∀ w, X (fun v' w' => v' = v ∧ w' = w) w) ∧ k v
def stiff (o : Oper) : Bool :=
  match o.op with
  | .move _ => true
  | .assign _ => true
  | .nilCheck _ => true
  | .fieldAddr _ _ _ => true
  | .indexAddr _ _ _ => true
  | _ => false
theorem stiff_fd {n : Nat} {a : Value} : StiffX (fd n a) := by
  intro w0 k h
  cases a with
  | pointer o => cases o with
    | none => exact h.elim
    | some ad => exact ⟨_, fun w => ⟨rfl, rfl⟩, h⟩
  | _ => exact h.elim
theorem stiff_ixs {n : Nat} {a i : Value} : StiffX (ixs n a i) := by
  intro w0 k h
  cases a with
  | slice o l c => cases o with
    | none => exact h.elim
    | some ad => cases i with
      | int q m => exact ⟨_, fun w => ⟨h.1, rfl, rfl⟩, h.2⟩
      | _ => exact h.elim
  | _ => exact h.elim
theorem stiff_ixa {l n : Nat} {a i : Value} : StiffX (ixa l n a i) := by
  intro w0 k h
  cases a with
  | pointer o => cases o with
    | none => exact h.elim
    | some ad => cases i with
      | int q m => exact ⟨_, fun w => ⟨h.1, rfl, rfl⟩, h.2⟩
      | _ => exact h.elim
  | _ => exact h.elim
theorem stiff_nck {a : Value} : StiffX (nck a) := by
  intro w0 k h
  cases a with
  | pointer o => cases o with
    | none => exact h.elim
    | some ad => exact ⟨_, fun w => ⟨rfl, rfl⟩, h⟩
  | _ => exact h.elim
theorem stiff_dop {P : Program} {s : Nat → Value} {o : Oper} (h : stiff o = true) : StiffX (dop P s o) := by
  obtain ⟨dst, op, type, pos, after, guard⟩ := o
  cases op <;> simp only [stiff, Bool.false_eq_true] at h
  case move x => exact fun w0 k h => ⟨_, fun w => ⟨rfl, rfl⟩, h⟩
  case assign x => exact fun w0 k h => ⟨_, fun w => ⟨rfl, rfl⟩, h⟩
  case nilCheck x => exact stiff_nck
  case fieldAddr t x f =>
    intro w0 k hh
    simp only [dop, fa] at *
    cases e : foff P t f with
    | none => rw [e] at hh; exact hh.elim
    | some n => rw [e] at hh; exact stiff_fd w0 k hh
  case indexAddr t x i =>
    intro w0 k hh
    simp only [dop, ix] at *
    split at hh
    · split at hh
      · exact stiff_ixs w0 k hh
      · exact hh.elim
    · split at hh
      · exact stiff_ixa w0 k hh
      · exact hh.elim
    · exact hh.elim
theorem stiff_gd {g : Value} {want : Bool} {X : (Value → World → Prop) → World → Prop} (h : StiffX X) : StiffX (gd g want X) := by
  intro w0 k hh
  obtain ⟨hh⟩ := hh
  unfold gdp at hh
  split at hh
  · rename_i b
    cases e : (b == want) with
    | true =>
      rw [e] at hh
      obtain ⟨v, h1, h2⟩ := h w0 k hh
      exact ⟨v, fun w => ⟨by unfold gdp; simp only [e, cond_true]; exact h1 w⟩, h2⟩
    | false =>
      rw [e] at hh
      exact ⟨undef, fun w => ⟨by unfold gdp; simp only [e, cond_false]; exact ⟨trivial, trivial⟩⟩, hh⟩
  · rename_i hne
    exact ⟨undef, fun w => ⟨by unfold gdp; split <;> first | exact ⟨rfl, rfl⟩ | (rename_i b; exact absurd rfl (hne b))⟩, hh⟩
theorem stiff_dog {P : Program} {ops : Array Oper} {s : Nat → Value} {o : Oper} (h : stiff o = true) : StiffX (dog P ops s o) := by
  intro w0 k hh
  unfold dog at *
  cases hg : o.guard with
  | none => rw [hg] at hh; exact stiff_dop h w0 k hh
  | some g =>
    obtain ⟨j, want⟩ := g
    rw [hg] at hh
    simp only at *
    cases hd : (ops[j]?).bind (·.dst) with
    | none => rw [hd] at hh; exact ⟨undef, fun w => ⟨rfl, trivial⟩, hh⟩
    | some d => rw [hd] at hh; exact stiff_gd (stiff_dop h) w0 k hh
theorem stiff_nice {P : Program} {o : Oper} (h : stiff o = true) : nice P o = true := by
  obtain ⟨dst, op, type, pos, after, guard⟩ := o
  cases op <;> simp only [stiff, Bool.false_eq_true] at h <;> rfl

end Go.Sh
