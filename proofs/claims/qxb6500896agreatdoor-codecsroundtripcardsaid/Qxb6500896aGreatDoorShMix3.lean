/-
  A region that draws its order, the looks at memory taken first: they hold in every world of a kind R that the prover names.
-/
import Derived.Test.Qxb6500896aGreatDoorShTr
namespace Go.Sh.R
open Go.Sh Go.RowKit
set_option linter.unusedVariables false
set_option linter.unusedSimpArgs false

def StillX (X : (Value → World → Prop) → World → Prop) : Prop :=
  ∀ (w0 : World) (k : Value → Prop), X (fun v _ => k v) w0 → ∃ v, (∀ w, X (fun v' w' => v' = v ∧ w' = w) w) ∧ k v

theorem still_const {v0 : Value} : StillX (fun K w => K v0 w) := fun w0 k h => ⟨v0, fun w => ⟨rfl, rfl⟩, h⟩
theorem still_fd {n : Nat} {a : Value} : StillX (fd n a) := by
  intro w0 k h
  cases a with
  | pointer o => cases o with
    | none => exact h.elim
    | some ad => exact ⟨_, fun w => ⟨rfl, rfl⟩, h⟩
  | _ => exact h.elim
theorem still_ixs {n : Nat} {a i : Value} : StillX (ixs n a i) := by
  intro w0 k h
  cases a with
  | slice o l c => cases o with
    | none => exact h.elim
    | some ad => cases i with
      | int q m => exact ⟨_, fun w => ⟨h.1, rfl, rfl⟩, h.2⟩
      | _ => exact h.elim
  | _ => exact h.elim
theorem still_ixa {l n : Nat} {a i : Value} : StillX (ixa l n a i) := by
  intro w0 k h
  cases a with
  | pointer o => cases o with
    | none => exact h.elim
    | some ad => cases i with
      | int q m => exact ⟨_, fun w => ⟨h.1, rfl, rfl⟩, h.2⟩
      | _ => exact h.elim
  | _ => exact h.elim
theorem still_nck {a : Value} : StillX (nck a) := by
  intro w0 k h
  cases a with
  | pointer o => cases o with
    | none => exact h.elim
    | some ad => exact ⟨_, fun w => ⟨rfl, rfl⟩, h⟩
  | _ => exact h.elim
theorem still_pk {c a b : Value} : StillX (pk c a b) := by
  intro w0 k h
  cases c with
  | bool t => exact ⟨_, fun w => ⟨rfl, rfl⟩, h⟩
  | _ => exact h.elim
theorem still_pv {o : Option Value} : StillX (pv o) := by
  intro w0 k h
  cases o with
  | none => exact h.elim
  | some v => exact ⟨_, fun w => ⟨rfl, rfl⟩, h⟩
theorem still_bdq {z : List Value} {ps : List (Option (Nat × Nat) × Value)} : StillX (bdq z ps) := by
  intro w0 k h
  replace h := h.go
  cases e : fillL z ps with
  | none => rw [e] at h; exact h.elim
  | some l => rw [e] at h; exact ⟨_, fun w => ⟨by rw [e]; exact ⟨rfl, rfl⟩⟩, h⟩
theorem still_exq {x : Value} {i : Nat} : StillX (exq x i) := by
  cases x with
  | tuple vs => exact still_pv
  | _ => exact fun w0 k h => h.elim
theorem still_boI {op : BinOp} {a b : Value} : StillX (boI op a b) := by
  intro w0 k h
  cases a with
  | int q m => cases b with
    | int r n => cases op <;> exact ⟨_, fun w => ⟨h.1, rfl, rfl⟩, h.2⟩
    | _ => exact h.elim
  | _ => exact h.elim
theorem still_boS {op : BinOp} {a b : Value} : StillX (boS op a b) := by
  intro w0 k h
  cases a with
  | string m => cases b with
    | string n => cases op <;> first | exact h.elim | exact ⟨_, fun w => ⟨rfl, rfl⟩, h⟩ | exact ⟨_, fun w => ⟨h.1, rfl, rfl⟩, h.2⟩
    | _ => exact h.elim
  | _ => exact h.elim
theorem still_boB {op : BinOp} {a b : Value} : StillX (boB op a b) := by
  intro w0 k h
  cases op <;> first | exact h.elim | (cases a <;> first | exact h.elim | (cases b <;> first | exact h.elim | exact ⟨_, fun w => ⟨rfl, rfl⟩, h⟩))
theorem still_boP {op : BinOp} {a b : Value} : StillX (boP op a b) := by
  intro w0 k h
  cases op <;> first | exact h.elim | (cases a <;> first | exact h.elim | (rename_i o; cases o <;> cases b <;> first | exact h.elim | exact ⟨_, fun w => ⟨rfl, rfl⟩, h⟩ | (rename_i q; cases q <;> first | exact h.elim | exact ⟨_, fun w => ⟨rfl, rfl⟩, h⟩)))
theorem still_boZ {op : BinOp} {a b : Value} : StillX (boZ op a b) := by
  intro w0 k h
  cases op <;> first | exact h.elim | (cases a <;> first | exact h.elim | (rename_i o _ _; cases o <;> cases b <;> first | exact h.elim | exact ⟨_, fun w => ⟨rfl, rfl⟩, h⟩ | (rename_i q _ _; cases q <;> first | exact h.elim | exact ⟨_, fun w => ⟨rfl, rfl⟩, h⟩)))
theorem still_boF {P : Program} {c : Bool} {op : BinOp} {a b : Value} : StillX (boF P c op a b) := by
  intro w0 k h
  cases op <;> first | exact h.elim | (cases a <;> first | exact h.elim | (cases b <;> first | exact h.elim | (obtain ⟨r, h1, h2⟩ := boE_still (P := P) (F := fun b => k (.bool b)) h; exact ⟨.bool r, fun w => h1 (fun b => (Value.bool b = Value.bool r ∧ w = w)) ⟨rfl, rfl⟩, h2⟩) | (obtain ⟨r, h1, h2⟩ := boE_still (P := P) (F := fun b => k (.bool (!b))) h; exact ⟨.bool (!r), fun w => h1 (fun b => (Value.bool (!b) = Value.bool (!r) ∧ w = w)) ⟨rfl, rfl⟩, h2⟩) | exact ⟨_, fun w => ⟨rfl, rfl⟩, h⟩ | exact ⟨_, fun w => ⟨h.1, rfl, rfl⟩, h.2⟩))
theorem still_cvi {q : IntKind} {x : Value} : StillX (cvi q x) := by
  intro w0 k h
  cases x with
  | int _ n => exact ⟨_, fun w => ⟨rfl, rfl⟩, h⟩
  | _ => exact h.elim
theorem still_taq {u : TypeId} {z : Value} {ok : Bool} {x : Value} : StillX (taq u z ok x) := by
  intro w0 k h
  cases x with
  | iface t v =>
    unfold taq at *
    dsimp only at *
    by_cases e : t = u
    · rw [if_pos e] at h; exact ⟨_, fun w => by rw [if_pos e]; exact ⟨rfl, rfl⟩, h⟩
    · rw [if_neg e] at h; exact ⟨_, fun w => by rw [if_neg e]; exact ⟨h.1, rfl, rfl⟩, h.2⟩
  | nilIface => exact ⟨_, fun w => ⟨h.1, rfl, rfl⟩, h.2⟩
  | _ => exact h.elim
theorem still_lnS {x : Value} : StillX (lnS x) := by
  intro w0 k h
  cases x with
  | slice a n c => exact ⟨_, fun w => ⟨rfl, rfl⟩, h⟩
  | _ => exact h.elim
theorem still_lnT {x : Value} : StillX (lnT x) := by
  intro w0 k h
  cases x with
  | string s => exact ⟨_, fun w => ⟨rfl, rfl⟩, h⟩
  | _ => exact h.elim
theorem still_cpS {x : Value} : StillX (cpS x) := by
  intro w0 k h
  cases x with
  | slice a n c => exact ⟨_, fun w => ⟨rfl, rfl⟩, h⟩
  | _ => exact h.elim
theorem still_sls {n : Nat} {x : Value} {lo hi : Option Value} : StillX (sls n x lo hi) := by
  intro w0 k h
  cases x with
  | slice a len cap =>
    unfold sls at *
    dsimp only at *
    cases e1 : bv lo 0 with
    | none => rw [e1] at h; exact h.elim
    | some l => cases e2 : bv hi len with
      | none => rw [e1, e2] at h; exact h.elim
      | some m => rw [e1, e2] at h; exact ⟨_, fun w => ⟨h.1, rfl, rfl⟩, h.2⟩
  | _ => exact h.elim
theorem still_sla {n m : Nat} {x : Value} {lo hi : Option Value} : StillX (sla n m x lo hi) := by
  intro w0 k h
  cases x with
  | pointer o => cases o with
    | none => exact h.elim
    | some a =>
      unfold sla at *
      dsimp only at *
      cases e1 : bv lo 0 with
      | none => rw [e1] at h; exact h.elim
      | some l => cases e2 : bv hi n with
        | none => rw [e1, e2] at h; exact h.elim
        | some m => rw [e1, e2] at h; exact ⟨_, fun w => ⟨h.1, rfl, rfl⟩, h.2⟩
  | _ => exact h.elim
theorem still_slt {x : Value} {lo hi : Option Value} : StillX (slt x lo hi) := by
  intro w0 k h
  cases x with
  | string s =>
    unfold slt at *
    dsimp only at *
    cases e1 : bv lo 0 with
    | none => rw [e1] at h; exact h.elim
    | some l => cases e2 : bv hi s.size with
      | none => rw [e1, e2] at h; exact h.elim
      | some m => rw [e1, e2] at h; exact ⟨_, fun w => ⟨h.1, rfl, rfl⟩, h.2⟩
  | _ => exact h.elim
theorem still_gd {g : Value} {want : Bool} {X : (Value → World → Prop) → World → Prop} (hX : StillX X) : StillX (gd g want X) := by
  intro w0 k h
  have h := h.out
  cases g with
  | bool b =>
    unfold gdp at h
    dsimp only at h
    cases e : (b == want) with
    | true =>
      rw [e] at h
      obtain ⟨v, h1, h2⟩ := hX w0 k h
      exact ⟨v, fun w => ⟨by unfold gdp; dsimp only; rw [e]; exact h1 w⟩, h2⟩
    | false => rw [e] at h; exact ⟨undef, fun w => ⟨by unfold gdp; dsimp only; rw [e]; exact ⟨rfl, rfl⟩⟩, h⟩
  | _ => exact ⟨undef, fun w => ⟨⟨rfl, rfl⟩⟩, h⟩

def isLd (o : Oper) : Bool := match o.op with
  | .load _ _ => true
  | _ => false
theorem still_dop {P : Program} {s : Nat → Value} {o : Oper} (h : nice P o = true) (hl : isLd o = false) : StillX (dop P s o) := by
  obtain ⟨dst, op, type, pos, after, guard⟩ := o
  cases op <;> simp only [nice, Bool.false_eq_true] at h
  case move x => exact still_const
  case assign x => exact still_const
  case pick c a b => exact still_pk
  case load t a => simp [isLd] at hl
  case nilCheck x => exact still_nck
  case unOp op t x => exact still_pv
  case build t ps =>
    intro w0 k hh
    simp only [dop, bd] at *
    cases e1 : zeroOf P t with
    | none => rw [e1] at hh; exact hh.elim
    | some z => cases e2 : plc P t with
      | none => rw [e1, e2] at hh; exact hh.elim
      | some pl => rw [e1, e2] at hh; exact still_bdq w0 k hh
  case extract x i => exact still_exq
  case fieldAddr t x f =>
    intro w0 k hh
    simp only [dop, fa] at *
    cases e : foff P t f with
    | none => rw [e] at hh; exact hh.elim
    | some n => rw [e] at hh; exact still_fd w0 k hh
  case indexAddr t x i =>
    intro w0 k hh
    simp only [dop, ix] at *
    split at hh
    · split at hh
      · exact still_ixs w0 k hh
      · exact hh.elim
    · split at hh
      · exact still_ixa w0 k hh
      · exact hh.elim
    · exact hh.elim
  case makeFunc fn fs cs =>
    intro w0 k hh
    simp only [dop] at *
    exact ⟨_, fun w => ⟨rfl, trivial⟩, hh⟩
  case makeInterface t x =>
    intro w0 k hh
    simp only [dop, mi] at *
    split at hh
    · exact hh.elim
    · exact hh.elim
    · exact ⟨_, fun w => ⟨rfl, trivial⟩, hh⟩
  case slice t x lo hi mx =>
    cases mx with
    | some _ => simp at h
    | none =>
      intro w0 k hh
      simp only [dop, sl, Option.map_none] at *
      split at hh
      · split at hh
        · exact still_sls w0 k hh
        · exact hh.elim
      · split at hh
        · exact still_sla w0 k hh
        · exact hh.elim
      · exact still_slt w0 k hh
      · exact hh.elim
  case binOp op t x y u =>
    intro w0 k hh
    simp only [dop, bo] at *
    split at hh
    · exact still_boI w0 k hh
    · exact still_boS w0 k hh
    · exact still_boB w0 k hh
    · exact still_boP w0 k hh
    · exact still_boZ w0 k hh
    · exact still_boF w0 k hh
    · rename_i h1 h2 h3 h4 h5 h6
      split at h
      all_goals first | (rename_i e; exact absurd e (h1 _)) | (rename_i e; exact absurd e h2) | (rename_i e; exact absurd e h3) | (rename_i e; exact absurd e (h4 _)) | (rename_i e; exact absurd e (h5 _)) | (rename_i e; exact absurd e (h6 _)) | cases h
  case convert a b x =>
    intro w0 k hh
    simp only [dop, cv] at *
    split at hh
    · exact still_cvi w0 k hh
    · rename_i hne
      split at h
      · rename_i e1 e2; exact (hne _ _ e1 e2).elim
      · cases h
  case typeAssert x t u ok =>
    intro w0 k hh
    simp only [dop, ta] at *
    split at hh
    · exact hh.elim
    · rename_i e; simp only [e] at h; cases h
    · split at hh
      · exact still_taq w0 k hh
      · exact hh.elim
  case call c =>
    obtain ⟨callee, args, ats⟩ := c
    cases callee with
    | value f => simp at h
    | invoke r m => simp at h
    | builtin b =>
      cases b <;> simp at h
      case len =>
        intro w0 k hh
        simp only [dop, bi, ln] at *
        split at hh
        · rename_i u x e1 e2
          rw [e1] at h
          simp only at h
          split at hh
          · exact still_lnS w0 k hh
          · exact still_lnT w0 k hh
          · exact ⟨_, fun w => ⟨rfl, trivial⟩, hh⟩
          · rename_i h1 h2 h3
            split at h
            · rename_i e; exact absurd e (h1 _)
            · rename_i e; exact absurd e h2
            · rename_i e; exact absurd e (h3 _ _)
            · cases h
        · exact hh.elim
      case cap =>
        intro w0 k hh
        simp only [dop, bi, cpc] at *
        split at hh
        · rename_i u x e1 e2
          rw [e1] at h
          simp only at h
          split at hh
          · exact still_cpS w0 k hh
          · rename_i h1
            split at h
            · rename_i e; exact absurd e (h1 _)
            · cases h
        · exact hh.elim

theorem still_dog {P : Program} {ops : Array Oper} {s : Nat → Value} {o : Oper} (h : nice P o = true) (hl : isLd o = false) : StillX (dog P ops s o) := by
  intro w0 k hh
  unfold dog at *
  cases hg : o.guard with
  | none => rw [hg] at hh; exact still_dop h hl w0 k hh
  | some g =>
    obtain ⟨j, want⟩ := g
    rw [hg] at hh
    simp only at *
    cases hd : (ops[j]?).bind (·.dst) with
    | none => rw [hd] at hh; exact ⟨undef, fun w => ⟨rfl, trivial⟩, hh⟩
    | some d => rw [hd] at hh; exact still_gd (still_dop h hl) w0 k hh

def soft (P : Program) (o : Oper) : Bool := nice P o && !isLd o
/-- one value in every world of the kind R, and the world stays -/
def qw (R : World → Prop) (X : (Value → World → Prop) → World → Prop) (k : Value → Prop) : Prop :=
  ∃ v, (∀ w, R w → X (fun v' w' => v' = v ∧ w' = w) w) ∧ k v
def c1 (P : Program) (ops : Array Oper) (R : World → Prop) (s : Nat → Value) (o : Oper) (w0 : World) (k : Value → Prop) : Prop :=
  bif soft P o then dog P ops s o (fun v _ => k v) w0 else qw R (dog P ops s o) k
def dC (P : Program) (ops : Array Oper) (R : World → Prop) (w0 : World) : List Nat → ((Nat → Value) → Prop) → (Nat → Value) → Prop
  | [], k, s => k s
  | i :: r, k, s => match ops[i]? with
    | some o => c1 P ops R s o w0 (fun v => dC P ops R w0 r k (putE s o.dst v))
    | none => False
def softAt (P : Program) (ops : Array Oper) (j : Nat) : Bool := match ops[j]? with
  | some o => soft P o
  | none => true
def hard (P : Program) (ops : Array Oper) (cs : List Nat) : List Nat := cs.filter fun j => !softAt P ops j
def sd (b : Bool) (R : World → Prop) (w : World) (Q : Prop) : Prop := bif b then Q else (R w ∧ Q)
def dF (P : Program) (ops : Array Oper) (last : Nat → Bool) (R : World → Prop) (N : (Nat → Value) → World → Prop) : Nat → Array Bool → (Nat → Value) → World → Prop
  | 0, l, s, w => match Region.ready .any ops l with
    | [] => N s w
    | _ => False
  | f + 1, l, s, w => match Region.ready .any ops l with
    | [] => N s w
    | i :: r => allL (i :: r) fun i => match ops[i]? with
      | some o => dog P ops s o (fun v w' => sd (last i) R w' (dF P ops last R N f (l.setIfInBounds i true) (putE s o.dst v) w')) w
      | none => False
section
variable {P : Program} {ops : Array Oper} {ms cs : List Nat} {w0 : World} {R : World → Prop} {N : (Nat → Value) → World → Prop}
theorem c1_spec {s : Nat → Value} {o : Oper} {k : Value → Prop} (h : c1 P ops R s o w0 k) :
    ∃ v, (∀ w, soft P o = true ∨ R w → dog P ops s o (fun v' w' => v' = v ∧ w' = w) w) ∧ k v := by
  unfold c1 at h
  cases hs : soft P o with
  | true =>
    rw [hs] at h
    simp only [soft, Bool.and_eq_true, Bool.not_eq_true'] at hs
    obtain ⟨v, h1, h2⟩ := still_dog hs.1 hs.2 w0 k h
    exact ⟨v, fun w _ => h1 w, h2⟩
  | false =>
    rw [hs] at h
    obtain ⟨v, h1, h2⟩ := h
    exact ⟨v, fun w hw => h1 w (hw.resolve_left (fun q => by cases q)), h2⟩
theorem dC_spec (hc : Chk ops cs) : ∀ (l : List Nat) (k : (Nat → Value) → Prop) (s : Nat → Value), (∀ j ∈ l, j ∈ cs) → sortB l = true → dC P ops R w0 l k s →
    ∃ sC, k sC ∧ (∀ t, (∀ j ∈ l, dstOf ops j ≠ some t) → sC t = s t) ∧
      ∀ j ∈ l, ∀ o, ops[j]? = some o → ∃ cv, (∀ d, o.dst = some d → sC d = cv) ∧
        ∀ s', (∀ t ∈ rd ops o, s' t = sC t) → ∀ w, soft P o = true ∨ R w → dog P ops s' o (fun v w' => v = cv ∧ w' = w) w
  | [], k, s, _, _, h => ⟨s, h, fun _ _ => rfl, fun j hj => by cases hj⟩
  | i :: r, k, s, hl, hs, h => by
    simp only [dC] at h
    split at h
    · rename_i o ho
      obtain ⟨v, hv, hk⟩ := c1_spec h
      simp only [sortB, Bool.and_eq_true, List.all_eq_true] at hs
      obtain ⟨sC, h1, h2, h3⟩ := dC_spec hc r k _ (fun j hj => hl j (List.mem_cons_of_mem _ hj)) hs.2 hk
      have hi : i < ops.size := hc.lt i (hl i (List.mem_cons_self ..))
      have hdi : dstOf ops i = o.dst := by simp [dstOf, ho]
      have hri : rdOf ops i = rd ops o := by simp [rdOf, ho]
      have hlt : ∀ j ∈ r, i < j := fun j hj => by simpa [Nat.blt_eq] using hs.1 j hj
      -- the slots that it reads are written by none from here on
      have hrd : ∀ t ∈ rd ops o, sC t = s t := by
        intro t ht
        rw [h2 t (fun j hj hd => by
          have := hc.acyc i hi j (hc.rdw i hi j (hl j (List.mem_cons_of_mem _ hj)) t hd (by rw [hri]; exact ht))
          have := hlt j hj
          omega)]
        refine putE_ne (fun hd => ?_)
        have := hc.acyc i hi i (hc.rdw i hi i (hl i (List.mem_cons_self ..)) t (by rw [hdi, hd]) (by rw [hri]; exact ht))
        omega
      refine ⟨sC, h1, ?_, ?_⟩
      · intro t ht
        rw [h2 t (fun j hj => ht j (List.mem_cons_of_mem _ hj))]
        exact putE_ne (by rw [← hdi]; exact ht i (List.mem_cons_self ..))
      · intro j hj oj hoj
        rcases List.mem_cons.1 hj with rfl | hj
        · rw [ho] at hoj; cases hoj
          refine ⟨v, ?_, ?_⟩
          · intro d hd
            rw [h2 d (fun j' hj' hd' => by
              have hne : j' ≠ j := by have := hlt j' hj'; omega
              exact hc.dst j hi j' (hl j' (List.mem_cons_of_mem _ hj')) hne d hd' (by rw [hdi, hd]))]
            rw [hd]; exact putE_same
          · intro s' hs' w hw
            rw [dog_congr (s' := s) (fun t ht => by rw [hs' t ht, hrd t ht])]
            exact hv w hw
        · exact h3 j hj oj hoj
    · exact h.elim

structure Inv (P : Program) (ops : Array Oper) (ms cs : List Nat) (R : World → Prop) (N : (Nat → Value) → World → Prop) (sC : Nat → Value)
    (fuel : Nat) (listed : Array Bool) (s : Nat → Value) (w : World) (f : Nat) (lF : Array Bool) (sF : Nat → Value) : Prop where
  sz : listed.size = ops.size
  szF : lF.size = ops.size
  lF_eq : ∀ i, i < ops.size → lF.getD i true = (listed.getD i true || memB i cs)
  closed : ∀ i, i < ops.size → listed.getD i true = true → ∀ e ∈ preOf ops i, listed.getD e true = true
  slots : ∀ t, (∀ j ∈ cs, listed.getD j true = false → dstOf ops j ≠ some t) → s t = sF t
  fresh : ∀ t, (∀ i, i < ops.size → i ∉ cs → dstOf ops i ≠ some t) → sF t = sC t
  below : (∃ j ∈ cs, listed.getD j true = false ∧ softAt P ops j = false) → R w
  run : dF P ops (lastB ms (hard P ops cs)) R N f lF sF w
  count : cnt listed ops.size ≤ fuel

theorem Inv.done {sC : Nat → Value} {fuel : Nat} {listed : Array Bool} {s : Nat → Value} {w : World} {f : Nat} {lF : Array Bool} {sF : Nat → Value}
    (hc : Chk ops cs) (I : Inv P ops ms cs R N sC fuel listed s w f lF sF) (hall : ∀ i, i < ops.size → listed.getD i true = true) : N s w := by
  have e : s = sF := by
    funext t
    exact I.slots t (fun j hj hf => by rw [hall j (hc.lt j hj)] at hf; cases hf)
  have hr : Region.ready .any ops lF = [] := rdy_all I.szF hc.acyc (fun i hi => by rw [I.lF_eq i hi, hall i hi, Bool.true_or])
  have hrun := I.run
  cases f with
  | zero => simp only [dF, hr] at hrun; rw [e]; exact hrun
  | succ f => simp only [dF, hr] at hrun; rw [e]; exact hrun

theorem mix_main (hc : Chk ops cs) (hms : chkM ops ms = true) {sC : Nat → Value}
    (hD : ∀ j ∈ cs, ∀ o, ops[j]? = some o → ∃ cv, (∀ d, o.dst = some d → sC d = cv) ∧
        ∀ s', (∀ t ∈ rd ops o, s' t = sC t) → ∀ w, soft P o = true ∨ R w → dog P ops s' o (fun v w' => v = cv ∧ w' = w) w) :
    ∀ (fuel : Nat) (listed : Array Bool) (s : Nat → Value) (w : World) (f : Nat) (lF : Array Bool) (sF : Nat → Value),
      Inv P ops ms cs R N sC fuel listed s w f lF sF → dAny P ops N fuel listed s w := by
  intro fuel
  induction fuel with
  | zero =>
    intro listed s w f lF sF I
    have hall := cnt_zero listed ops.size (Nat.le_zero.1 I.count)
    exact ⟨rdy_all I.sz hc.acyc hall, I.done hc hall⟩
  | succ fuel ih =>
    intro listed s w f lF sF I
    refine ⟨fun h0 => I.done hc (rdy_nil I.sz hc.acyc h0), fun i hi o ho => ?_⟩
    obtain ⟨hin, hfi, hpre⟩ := (mem_rdy I.sz hc.acyc).1 hi
    have hdi : dstOf ops i = o.dst := by simp [dstOf, ho]
    have hri : rdOf ops i = rd ops o := by simp [rdOf, ho]
    have hcount : cnt (listed.setIfInBounds i true) ops.size ≤ fuel := by
      have := cnt_set listed i hfi ops.size
      have e : Nat.blt i ops.size = true := by rw [Nat.blt_eq]; exact hin
      rw [e] at this
      have := I.count
      simp at *
      omega
    have hset : ∀ k, (listed.setIfInBounds i true).getD k true = false → k ≠ i ∧ listed.getD k true = false := by
      intro k hk
      rw [getD_set, Bool.or_eq_false_iff] at hk
      exact ⟨fun e => by subst e; simp at hk, hk.2⟩
    have hset' : ∀ k, listed.getD k true = true → (listed.setIfInBounds i true).getD k true = true := by
      intro k hk; rw [getD_set, hk, Bool.or_true]
    have hclosed : ∀ k, k < ops.size → (listed.setIfInBounds i true).getD k true = true → ∀ e ∈ preOf ops k, (listed.setIfInBounds i true).getD e true = true := by
      intro k hk hl e he
      rw [getD_set, Bool.or_eq_true] at hl
      rcases hl with h | h
      · have := Nat.eq_of_beq_eq_true h; subst this; exact hset' e (hpre e he)
      · exact hset' e (I.closed k hk h e he)
    -- what is read now reads as in sF
    have hread : ∀ t ∈ rd ops o, s t = sF t := by
      intro t ht
      refine I.slots t (fun j hj hf hd => ?_)
      have := hpre j (hc.rdw i hin j hj t hd (by rw [hri]; exact ht))
      rw [hf] at this; cases this
    by_cases hcs : i ∈ cs
    · -- a still one
      obtain ⟨cv, hcv, hD'⟩ := hD i hcs o ho
      have hbel : soft P o = true ∨ R w := by
        cases hst : soft P o with
        | true => exact .inl rfl
        | false => exact .inr (I.below ⟨i, hcs, hfi, by simp [softAt, ho, hst]⟩)
      have hreadC : ∀ t ∈ rd ops o, s t = sC t := by
        intro t ht
        rw [hread t ht]
        refine I.fresh t (fun k hk hn hd => ?_)
        exact hc.fr k hk i hcs hn t hd (by rw [hri]; exact ht)
      refine dog_mono ?_ (hD' s hreadC w hbel)
      rintro v w' ⟨rfl, rfl⟩
      refine ih _ _ _ f lF sF ⟨by rw [Array.size_setIfInBounds]; exact I.sz, I.szF, ?_, hclosed, ?_, I.fresh, ?_, I.run, hcount⟩
      · intro k hk
        rw [getD_set, I.lF_eq k hk]
        cases hki : Nat.beq k i with
        | true => have := Nat.eq_of_beq_eq_true hki; subst this; simp [memB_iff.2 hcs]
        | false => rw [Bool.false_or]
      · intro t ht
        by_cases hd : o.dst = some t
        · rw [hd, putE_same, ← hcv t hd]
          refine (I.fresh t (fun k hk hn hdk => ?_)).symm
          exact hc.dst k hk i hcs (fun e => hn (e ▸ hcs)) t (by rw [hdi, hd]) hdk
        · rw [putE_ne hd]
          refine I.slots t (fun j hj hf hdj => ?_)
          by_cases hji : j = i
          · subst hji; rw [hdi] at hdj; exact hd hdj
          · refine ht j hj ?_ hdj
            rw [getD_set, hf]
            have : Nat.beq j i = false := by rw [← Bool.not_eq_true, Nat.beq_eq]; exact hji
            rw [this]; rfl
      · rintro ⟨j, hj, hf, hst⟩; exact I.below ⟨j, hj, (hset j hf).2, hst⟩
    · -- another
      have hlFi : lF.getD i true = false := by
        rw [I.lF_eq i hin, hfi, Bool.false_or]
        cases h : memB i cs with
        | true => exact absurd (memB_iff.1 h) hcs
        | false => rfl
      have hiF : i ∈ Region.ready .any ops lF := (mem_rdy I.szF hc.acyc).2 ⟨hin, hlFi, fun e he => by
        have := hc.acyc i hin e he
        rw [I.lF_eq e (by omega), hpre e he, Bool.true_or]⟩
      have hrun := I.run
      cases f with
      | zero =>
        simp only [dF] at hrun
        split at hrun
        · rename_i hr; rw [hr] at hiF; cases hiF
        · exact hrun.elim
      | succ f =>
        simp only [dF] at hrun
        split at hrun
        · rename_i hr; rw [hr] at hiF; cases hiF
        · rename_i a r hr
          rw [hr] at hiF
          have h1 := allL_mem hrun i hiF
          rw [ho] at h1
          simp only at h1
          rw [← dog_congr (s := s) hread] at h1
          refine dog_mono ?_ h1
          intro v w' hsd
          have hQ : dF P ops (lastB ms (hard P ops cs)) R N f (lF.setIfInBounds i true) (putE sF o.dst v) w' := by
            unfold sd at hsd
            cases hl : lastB ms (hard P ops cs) i with
            | true => rw [hl] at hsd; exact hsd
            | false => rw [hl] at hsd; exact hsd.2
          have hB : (∃ j ∈ cs, (listed.setIfInBounds i true).getD j true = false ∧ softAt P ops j = false) → R w' := by
            rintro ⟨j, hj, hf, hst⟩
            unfold sd at hsd
            cases hl : lastB ms (hard P ops cs) i with
            | true =>
              exfalso
              simp only [lastB, List.all_eq_true] at hl
              have := msk_listed hms I.closed hc.acyc i hin hpre j (hl j (by simp [hard, hj, hst]))
              rw [(hset j hf).2] at this; cases this
            | false => rw [hl] at hsd; exact hsd.1
          refine ih _ _ _ f _ _ ⟨by rw [Array.size_setIfInBounds]; exact I.sz, by rw [Array.size_setIfInBounds]; exact I.szF, ?_, hclosed, ?_, ?_, hB, hQ, hcount⟩
          · intro k hk
            rw [getD_set, getD_set, I.lF_eq k hk, Bool.or_assoc]
          · intro t ht
            by_cases hd : o.dst = some t
            · rw [hd, putE_same, putE_same]
            · rw [putE_ne hd, putE_ne hd]
              refine I.slots t (fun j hj hf hdj => ?_)
              refine ht j hj ?_ hdj
              have hji : j ≠ i := fun e => hcs (e ▸ hj)
              rw [getD_set, hf]
              have : Nat.beq j i = false := by rw [← Bool.not_eq_true, Nat.beq_eq]; exact hji
              rw [this]; rfl
          · intro t ht
            have hd : o.dst ≠ some t := by rw [← hdi]; exact ht i hin hcs
            rw [putE_ne hd]
            exact I.fresh t ht

theorem dAny_mix {s : Nat → Value} {w : World} (hR : R w) (hchk : chk ops cs = true) (hms : chkM ops ms = true)
    (h : dC P ops R w cs (fun s' => dF P ops (lastB ms (hard P ops cs)) R N ops.size (mrk ops.size cs) s' w) s) :
    dAny P ops N ops.size (Array.replicate ops.size false) s w := by
  have hc := chk_spec hchk
  obtain ⟨sC, h1, h2, h3⟩ := dC_spec hc cs _ s (fun j hj => hj) hc.sorted h
  have hrep : ∀ i, i < ops.size → (Array.replicate ops.size false).getD i true = false := fun i hi => by
    simp [Array.getD_eq_getD_getElem?, hi]
  refine mix_main hc hms h3 ops.size _ s w ops.size (mrk ops.size cs) sC ⟨by simp, by simp [mrk], ?_, ?_, ?_, fun _ _ => rfl, fun _ => hR, h1, cnt_le _ _⟩
  · intro i hi; rw [mrk_getD _ _ _ hi, hrep i hi, Bool.false_or]
  · intro i hi hl; rw [hrep i hi] at hl; cases hl
  · intro t ht
    refine (h2 t (fun j hj => ?_)).symm
    exact ht j hj (hrep j (hc.lt j hj))

end
theorem tr_drawR {P : Program} {ops : Array Oper} {ms cs : List Nat} {N N' : (Nat → Value) → World → Prop} {s : Nat → Value} {w : World} {p : (World → Prop) → Prop} {q : Prop} (hchk : chk ops cs = true) (hms : chkM ops ms = true)
    (hN : ∀ s w, N s w → Tr (N' s w))
    (e : (fun R => dC P ops R (drw w) cs (fun s' => dF P ops (lastB ms (hard P ops cs)) R N ops.size (mrk ops.size cs) s' (drw w)) s) = p)
    (d : q = dAny P ops N' ops.size (Array.replicate ops.size false) s (drw w)) (h : ∃ R : World → Prop, R (drw w) ∧ p R) : Tr q := by
  obtain ⟨R, hR, h⟩ := h
  subst e
  exact ⟨d ▸ dAny_mono (fun s w h => (hN s w h).out) _ _ _ _ (dAny_mix hR hchk hms h)⟩
end Go.Sh.R
