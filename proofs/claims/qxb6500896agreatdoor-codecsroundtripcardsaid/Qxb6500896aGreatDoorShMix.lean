/-
  Regions that draw their order: the operations that leave the world alone ('cst') are taken first, in the order of the text;
  the others are run in whatever order their edges leave.
-/
import Derived.Test.Qxb6500896aGreatDoorSh
namespace Go.Sh
set_option linter.unusedVariables false
set_option linter.unusedSimpArgs false

/-! ### what an operation reads -/
def tmpsOf (xs : List Operand) : List Nat := xs.filterMap fun | .tmp t => some t | _ => none

def rd (ops : Array Oper) (o : Oper) : List Nat :=
  tmpsOf o.op.operands.toList ++
  match o.guard with
  | none => []
  | some (j, _) => match (ops[j]?).bind (·.dst) with
    | some d => [d]
    | none => []

theorem ev_congr {s s' : Nat → Value} {xs : List Operand} (h : ∀ t ∈ tmpsOf xs, s t = s' t) : ∀ x ∈ xs, ev s x = ev s' x := by
  intro x hx
  cases x with
  | tmp t => exact h t (List.mem_filterMap.2 ⟨.tmp t, hx, rfl⟩)
  | const v => rfl
  | global g => rfl
  | func f => rfl

theorem map_ev_congr {s s' : Nat → Value} {xs : Array Operand} (h : ∀ x ∈ xs.toList, ev s x = ev s' x) : xs.toList.map (ev s) = xs.toList.map (ev s') := by
  apply List.map_congr_left
  intro x hx
  exact h x hx

theorem parts_congr {s s' : Nat → Value} {ps : Array (Nat × Operand)} (h : ∀ x ∈ (ps.toList.map (·.2)).toArray.toList, ev s x = ev s' x) :
    (ps.toList.map fun p => (p.1, ev s p.2)) = (ps.toList.map fun p => (p.1, ev s' p.2)) := by
  apply List.map_congr_left
  intro p hp
  rw [h p.2]
  simp only [List.mem_map]
  exact ⟨p, hp, rfl⟩

theorem opt_congr {s s' : Nat → Value} {x : Option Operand} (h : ∀ y ∈ x.toArray.toList, ev s y = ev s' y) : x.map (ev s) = x.map (ev s') := by
  cases x with
  | none => rfl
  | some y => simp only [Option.map_some]; rw [h y (by simp)]

theorem dop_congr {P : Program} {s s' : Nat → Value} {o : Oper} {K : Value → World → Prop} {w : World} (h : ∀ x ∈ o.op.operands.toList, ev s x = ev s' x) :
    dop P s o K w = dop P s' o K w := by
  obtain ⟨dst, op, type, pos, after, guard⟩ := o
  cases op <;> simp only [Op.operands] at h <;> simp only [dop]
  case move x => rw [h x (by simp)]
  case assign x => rw [h x (by simp)]
  case pick c a b => rw [h c (by simp), h a (by simp), h b (by simp)]
  case box t x => rw [h x (by simp)]
  case build t ps => rw [parts_congr h]
  case buildSlice t n ps => rw [parts_congr h]
  case load t x => rw [h x (by simp)]
  case store t a x => rw [h a (by simp), h x (by simp)]
  case nilCheck x => rw [h x (by simp)]
  case binOp op t x y u => rw [h x (by simp), h y (by simp)]
  case unOp op t x => rw [h x (by simp)]
  case convert a b x => rw [h x (by simp)]
  case makeInterface t x => rw [h x (by simp)]
  case makeFunc fn fs cs => rw [map_ev_congr (xs := fs) fun x hx => h x (by simp only [Array.toList_append, List.mem_append]; exact .inl hx), map_ev_congr (xs := cs) fun x hx => h x (by simp only [Array.toList_append, List.mem_append]; exact .inr hx)]
  case makeSlice t l c => rw [h l (by simp), h c (by simp)]
  case makeMap t r => rw [opt_congr h]
  case slice t x lo hi mx =>
    rw [h x (by simp), opt_congr (x := lo) (fun y hy => h y (by simp at hy ⊢; simp [hy])), opt_congr (x := hi) (fun y hy => h y (by simp at hy ⊢; simp [hy])),
      opt_congr (x := mx) (fun y hy => h y (by simp at hy ⊢; simp [hy]))]
  case fieldAddr t x f => rw [h x (by simp)]
  case field t x f => rw [h x (by simp)]
  case indexAddr t x i => rw [h x (by simp), h i (by simp)]
  case index t x i => rw [h x (by simp), h i (by simp)]
  case lookup t x i ok => rw [h x (by simp), h i (by simp)]
  case mapUpdate t m k x => rw [h m (by simp), h k (by simp), h x (by simp)]
  case insert t m k x => rw [h m (by simp), h k (by simp), h x (by simp)]
  case range t x => rw [h x (by simp)]
  case next it b => rw [h it (by simp)]
  case typeAssert x t u ok => rw [h x (by simp)]
  case extract x i => rw [h x (by simp)]
  case call c =>
    obtain ⟨callee, args, ats⟩ := c
    have ha : args.toList.map (ev s) = args.toList.map (ev s') := map_ev_congr fun x hx => h x (by
      simp only [Call.operands, Array.toList_append, List.mem_append]; exact .inr hx)
    cases callee with
    | value f =>
      cases f <;> simp only [ha]
      case tmp t => rw [h (.tmp t) (by simp [Call.operands])]
    | invoke r m => rfl
    | builtin b => simp only [ha]

theorem dog_congr {P : Program} {ops : Array Oper} {s s' : Nat → Value} {o : Oper} {K : Value → World → Prop} {w : World} (h : ∀ t ∈ rd ops o, s t = s' t) :
    dog P ops s o K w = dog P ops s' o K w := by
  have h1 : ∀ K w, dop P s o K w = dop P s' o K w := fun K w => dop_congr (ev_congr fun t ht => h t (by unfold rd; exact List.mem_append_left _ ht))
  unfold dog
  cases hg : o.guard with
  | none => exact h1 K w
  | some g =>
    obtain ⟨j, want⟩ := g
    simp only
    cases hd : (ops[j]?).bind (·.dst) with
    | none => rfl
    | some d =>
      simp only
      have e : s d = s' d := h d (by unfold rd; rw [hg]; simp [hd])
      have e2 : dop P s o = dop P s' o := by funext K w; exact h1 K w
      rw [e, e2]

/-! ### more of a proposition's continuation -/
theorem ru_mono {P : Program} {x : Sem Unit} {K K' : World → Prop} {w : World} (h : ∀ w, K w → K' w) (hh : ru P x K w) : ru P x K' w := by
  replace hh := hh.go; refine ⟨?_⟩
  split
  · rename_i v w' e; rw [e] at hh; exact h _ hh
  · rename_i e; rw [e] at hh; exact hh

theorem cx_mono {P : Program} {f : FuncId} {args : Array Value} {K K' : Value → World → Prop} {w : World} (h : ∀ v w, K v w → K' v w) (hh : cx P f args K w) : cx P f args K' w := by
  unfold cx at *
  split at hh
  · exact h _ _ hh
  · exact hh.elim
theorem cl_mono {P : Program} {f : FuncId} {args : Array Value} {K K' : Value → World → Prop} {w : World} (h : ∀ v w, K v w → K' v w) (hh : cl P f args K w) : cl P f args K' w :=
  Calls.mono hh fun e w' ⟨v, he, hk⟩ => ⟨v, he, h _ _ hk⟩

theorem cdy_mono {P : Program} {f : Value} {args : Array Value} {K K' : Value → World → Prop} {w : World} (h : ∀ v w, K v w → K' v w) (hh : cdy P f args K w) : cdy P f args K' w := by
  unfold cdy at *
  split
  · exact ⟨hh.1, cl_mono h hh.2⟩
  · rename_i hne
    split at hh
    · exact absurd rfl (hne _ _ _)
    · exact hh
theorem dop_mono {P : Program} {s : Nat → Value} {o : Oper} {K K' : Value → World → Prop} {w : World} (h : ∀ v w, K v w → K' v w) (hh : dop P s o K w) : dop P s o K' w := by
  obtain ⟨dst, op, type, pos, after, guard⟩ := o
  cases op <;> simp only [dop] at hh ⊢
  all_goals try exact hh.elim
  case move x => exact h _ _ hh
  case assign x => exact h _ _ hh
  case alloc t => exact al_mono h hh
  case box t x => exact ⟨h _ _ hh.go⟩
  case build t ps => exact bd_mono h hh
  case buildSlice t n ps => exact bs_mono h hh
  case load t x => exact ld_mono h hh
  case store t x y => exact st_mono (fun w => h _ w) hh
  case binOp op t x y u => exact bo_mono h hh
  case unOp op t x => exact pv_mono h hh
  case convert x y z => exact cv_mono h hh
  case makeInterface t x => exact mi_mono h hh
  case makeFunc fn fs cs => exact h _ _ hh
  case makeSlice t l c => exact ms_mono h hh
  case slice t x lo hi mx => exact sl_mono h hh
  case fieldAddr t x f => exact fa_mono h hh
  case indexAddr t x i => exact ix_mono h hh
  case typeAssert x t u ok => exact ta_mono h hh
  case extract x i => exact exq_mono h hh
  case makeMap t r => exact rs_mono h hh
  case field t x f => exact rs_mono h hh
  case index t x i => exact rs_mono h hh
  case lookup t x i ok => exact rs_mono h hh
  case mapUpdate t m k x => exact ru_mono (fun w => h _ w) hh
  case insert t m k x => exact ru_mono (fun w => h _ w) hh
  case range t x => exact rs_mono h hh
  case next it b => exact rs_mono h hh
  case pick c a b =>
    unfold pk at *
    split
    · rename_i e; rw [e] at hh; exact h _ _ hh
    · rename_i hne
      split at hh
      · rename_i e; exact absurd e (hne _)
      · exact hh
  case nilCheck x =>
    unfold nck at *
    split
    · rename_i e; rw [e] at hh; exact h _ _ hh
    · rename_i hne
      split at hh
      · rename_i e; exact absurd e (hne _)
      · exact hh
  case call c =>
    obtain ⟨callee, args, ats⟩ := c
    cases callee with
    | value f =>
      cases f <;> first
        | exact hh.elim
        | exact cdy_mono h hh
        | (rename_i f
           simp only at hh ⊢
           cases hokf : okF P f with
           | true => rw [hokf] at hh; exact cl_mono h hh
           | false => rw [hokf] at hh; exact cx_mono h hh)
    | invoke r m => exact hh.elim
    | builtin b => exact bi_mono h hh

theorem gd_mono {g : Value} {want : Bool} {X : (Value → World → Prop) → World → Prop} {K K' : Value → World → Prop} {w : World}
    (hX : ∀ w, X K w → X K' w) (h : ∀ v w, K v w → K' v w) (hh : gd g want X K w) : gd g want X K' w := by
  have hh := hh.out
  refine ⟨?_⟩
  cases g with
  | bool b =>
    unfold gdp at *
    simp only at *
    cases hbw : (b == want)
    · rw [hbw] at hh; exact h _ _ hh
    · rw [hbw] at hh; exact hX _ hh
  | _ => exact h _ _ hh
theorem dog_mono {P : Program} {ops : Array Oper} {s : Nat → Value} {o : Oper} {K K' : Value → World → Prop} {w : World} (h : ∀ v w, K v w → K' v w) (hh : dog P ops s o K w) : dog P ops s o K' w := by
  unfold dog at *
  split
  · rename_i e; rw [e] at hh; exact dop_mono h hh
  · rename_i j want e
    rw [e] at hh
    simp only at hh
    split
    · rename_i d hd
      rw [hd] at hh
      simp only at hh
      exact gd_mono (fun _ => dop_mono h) h hh
    · rename_i hd
      rw [hd] at hh
      exact h _ _ hh

theorem dops_mono {P : Program} {ops : Array Oper} {N N' : (Nat → Value) → World → Prop} (h : ∀ s w, N s w → N' s w) : ∀ (l : List Oper) (s : Nat → Value) (w : World), dops P ops l N s w → dops P ops l N' s w
  | [], s, w, hh => h s w hh
  | o :: r, s, w, hh => dog_mono (fun v w' hk => dops_mono h r _ _ hk) hh

theorem dAny_mono {P : Program} {ops : Array Oper} {N N' : (Nat → Value) → World → Prop} (h : ∀ s w, N s w → N' s w) : ∀ (f : Nat) (l : Array Bool) (s : Nat → Value) (w : World), dAny P ops N f l s w → dAny P ops N' f l s w
  | 0, l, s, w, hh => ⟨hh.1, h s w hh.2⟩
  | f + 1, l, s, w, hh => ⟨fun h0 => h s w (hh.1 h0), fun i hi o ho => dog_mono (fun v w' hk => dAny_mono h f _ _ _ hk) (hh.2 i hi o ho)⟩

theorem den_mono {P : Program} : ∀ (c : Code) {N N' : (Nat → Value) → World → Prop} {X X' : Nat → (Nat → Value) → World → Prop} {R R' : (Nat → Value) → World → Prop}
    (hN : ∀ s w, N s w → N' s w) (hX : ∀ i s w, X i s w → X' i s w) (hR : ∀ s w, R s w → R' s w) (s : Nat → Value) (w : World), den P c N X R s w → den P c N' X' R' s w := by
  intro c
  induction c with
  | skip => intro N N' X X' R R' hN hX hR s w h; exact hN s w h
  | region id ops draw =>
    intro N N' X X' R R' hN hX hR s w h
    cases draw with
    | false => exact dops_mono hN _ _ _ h
    | true => exact dAny_mono hN _ _ _ _ h
  | seq x y ihx ihy => intro N N' X X' R R' hN hX hR s w h; exact ihx (fun s w h => ihy hN hX hR s w h) hX hR s w h
  | cond c x y ihx ihy =>
    intro N N' X X' R R' hN hX hR s w h
    simp only [den] at h ⊢
    unfold ifb at *
    split
    · rename_i e; rw [e] at h; exact ihx hN hX hR s w h
    · rename_i e; rw [e] at h; exact ihy hN hX hR s w h
    · rename_i e1 e2
      split at h
      · rename_i e; exact absurd e e1
      · rename_i e; exact absurd e e2
      · exact h
  | block id c ih =>
    intro N N' X X' R R' hN hX hR s w h
    refine ih (N := N) hN (fun i s w h => ?_) hR s w h
    cases hi : Nat.beq i id with
    | true => rw [hi] at h; exact hN s w h
    | false => rw [hi] at h; exact hX i s w h
  | loop c ih =>
    intro N N' X X' R R' hN hX hR s w h
    obtain ⟨I, n, h0, hr⟩ := h
    exact ⟨I, n, h0, fun n s w hI => ih (fun _ _ h => h) hX hR s w (hr n s w hI)⟩
  | exit id => intro N N' X X' R R' hN hX hR s w h; exact hX id s w h
  | ret => intro N N' X X' R R' hN hX hR s w h; exact hR s w h
  | rangeFunc f ps as b _ _ => intro N N' X X' R R' hN hX hR s w h; exact h.elim
  | scope b _ => intro N N' X X' R R' hN hX hR s w h; exact h.elim
  | label l => intro N N' X X' R R' hN hX hR s w h; exact h.elim
  | goto l => intro N N' X X' R R' hN hX hR s w h; exact h.elim
  | refuse m => intro N N' X X' R R' hN hX hR s w h; exact h.elim

/-- a proposition that is not looked into -/
structure Tr (p : Prop) : Prop where
  out : p

theorem denL_mono {P : Program} : ∀ (l : List Code) {N N' : (Nat → Value) → World → Prop} {X X' : Nat → (Nat → Value) → World → Prop} {R : (Nat → Value) → World → Prop}
    (hN : ∀ s w, N s w → N' s w) (hX : ∀ i s w, X i s w → X' i s w) (s : Nat → Value) (w : World), denL P l N X R s w → denL P l N' X' R s w
  | [], _, _, _, _, _, hN, _, s, w, h => hN s w h
  | c :: r, _, _, _, _, _, hN, hX, s, w, h => den_mono c (denL_mono r hN hX) hX (fun _ _ h => h) s w h

theorem bif_mono {a a' b b' : (Nat → Value) → World → Prop} {c : Bool} (ha : ∀ s w, a s w → a' s w) (hb : ∀ s w, b s w → b' s w) : ∀ s w, (bif c then a else b) s w → (bif c then a' else b') s w := by
  cases c
  · exact hb
  · exact ha

theorem ifb_mono {v : Value} {a a' b b' : Prop} (ha : a → a') (hb : b → b') (h : ifb v a b) : ifb v a' b' := by
  unfold ifb at *
  split
  · exact ha h
  · exact hb h
  · rename_i e1 e2
    split at h
    · exact absurd rfl e1
    · exact absurd rfl e2
    · exact h

end Go.Sh
