/-
  A SHALLOW READING OF THE TRANSLATED CODE. Own work; no program named here.
  'den': what a piece of code asks, as a proposition over plain slots (Nat → Value) and worlds; panics are not let in.
  'den_sound': from it to the kit's 'Code.wp'. 'calls_of_den': to 'Calls'.
-/
import Derived.Test.Qxb6500896aGreatDoorSh3
namespace Go.Sh
open Go.RowKit
set_option linter.unusedVariables false
set_option linter.unusedSimpArgs false

/-! ### slots -/
def upd (s : Nat → Value) (d : Nat) (v : Value) : Nat → Value := fun t => bif Nat.beq t d then v else s t

def ev (s : Nat → Value) : Operand → Value
  | .tmp t => s t
  | .const v => v
  | .global g => .pointer (some ⟨g, 0, none⟩)
  | .func f => .func (.func f) #[] #[]

def putE (s : Nat → Value) : Option Nat → Value → (Nat → Value)
  | some d, v => upd s d v
  | none, _ => s

theorem upd_same (s : Nat → Value) (d : Nat) (v : Value) : upd s d v d = v := by simp [upd]
theorem upd_ne (s : Nat → Value) {d t : Nat} (v : Value) (h : t ≠ d) : upd s d v t = s t := by
  have e : Nat.beq t d = false := by rw [← Bool.not_eq_true, Nat.beq_eq]; exact h
  simp [upd, e]

/-! ### one operation -/
def nck : Value → (Value → World → Prop) → World → Prop
  | .pointer (some a), K, w => K (.pointer (some a)) w
  | _, _, _ => False

def pk : Value → Value → Value → (Value → World → Prop) → World → Prop
  | .bool c, a, b, K, w => K (bif c then a else b) w
  | _, _, _, _, _ => False

def fi (P : Program) (t : TypeId) (x : Value) (f : Nat) (K : Value → World → Prop) (w : World) : Prop := rs P (Instr.field t x f) K w
def iv (P : Program) (t : TypeId) (x i : Value) (K : Value → World → Prop) (w : World) : Prop := rs P (Instr.index t x i) K w

def okF (P : Program) (f : FuncId) : Bool :=
  match P.funcs[f]? with
  | some fn => fn.body.isSome && !(fn.name == "runtime.NumGoroutine")
  | none => false

/-- a call of a function value -/
def cdy (P : Program) (f : Value) (args : Array Value) (K : Value → World → Prop) (w : World) : Prop :=
  match f with
  | .func (.func g) first captured => okF P g = true ∧ cl P g (first ++ args ++ captured) K w
  | _ => False

/-- a call of a function without a body: the model's own entry -/
def cx (P : Program) (f : FuncId) (args : Array Value) (K : Value → World → Prop) (w : World) : Prop :=
  match (callFunc f args).run P w with
  | .ok (.value v) w' => K v w'
  | _ => False

def dop (P : Program) (s : Nat → Value) (o : Oper) (K : Value → World → Prop) (w : World) : Prop :=
  match o.op with
  | .move x => K (ev s x) w
  | .assign x => K (ev s x) w
  | .pick c a b => pk (ev s c) (ev s a) (ev s b) K w
  | .alloc t => al P t K w
  | .box t x => nw t (ev s x).cells K w
  | .build t parts => bd P t (parts.toList.map fun p => (p.1, ev s p.2)) K w
  | .buildSlice t n parts => bs P t n (parts.toList.map fun p => (p.1, ev s p.2)) K w
  | .load t a => ld P t (ev s a) K w
  | .store t a x => st P t (ev s a) (ev s x) (K undef) w
  | .nilCheck x => nck (ev s x) K w
  | .binOp op t x y _ => bo P op t x y (ev s x) (ev s y) K w
  | .unOp op _ x => un op (ev s x) K w
  | .convert a b x => cv P a b (ev s x) K w
  | .makeInterface t x => mi P t (ev s x) K w
  | .makeFunc fn first captured => K (.func fn (first.toList.map (ev s)).toArray (captured.toList.map (ev s)).toArray) w
  | .makeSlice t l c => ms P t (ev s l) (ev s c) K w
  | .makeMap t r => rs P (Instr.makeMap t (r.map (ev s))) K w
  | .slice t x lo hi mx => sl P t (ev s x) (lo.map (ev s)) (hi.map (ev s)) (mx.map (ev s)) K w
  | .fieldAddr t x f => fa P t (ev s x) f K w
  | .field t x f => fi P t (ev s x) f K w
  | .indexAddr t x i => ix P t (ev s x) (ev s i) K w
  | .index t x i => iv P t (ev s x) (ev s i) K w
  | .lookup t x i ok => rs P (Instr.lookup t (ev s x) (ev s i) ok) K w
  | .mapUpdate t m k x => ru P (Instr.mapUpdate t (ev s m) (ev s k) (ev s x)) (K undef) w
  | .insert t m k x => ru P (Instr.mapUpdate t (ev s m) (ev s k) (ev s x)) (K undef) w
  | .range t x => rs P (Instr.range t (ev s x)) K w
  | .next it str => rs P (Instr.next (ev s it) str o.type) K w
  | .typeAssert x t u ok => ta P (ev s x) t u ok K w
  | .extract x i => exq (ev s x) i K w
  | .call c =>
    match c.callee with
    | .value (.func f) => bif okF P f then cl P f (c.args.toList.map (ev s)).toArray K w else cx P f (c.args.toList.map (ev s)).toArray K w
    | .value (.tmp t) => cdy P (ev s (.tmp t)) (c.args.toList.map (ev s)).toArray K w
    | .builtin b => bi P b c.argTypes.toList o.type (c.args.toList.map (ev s)) K w
    | _ => False
  | _ => False

/-- an operation under a guard -/
def gdp (g : Value) (want : Bool) (X : (Value → World → Prop) → World → Prop) (K : Value → World → Prop) (w : World) : Prop :=
  match g with
  | .bool b => bif b == want then X K w else K undef w
  | _ => K undef w
structure gd (g : Value) (want : Bool) (X : (Value → World → Prop) → World → Prop) (K : Value → World → Prop) (w : World) : Prop where
  out : gdp g want X K w

def dog (P : Program) (ops : Array Oper) (s : Nat → Value) (o : Oper) (K : Value → World → Prop) (w : World) : Prop :=
  match o.guard with
  | none => dop P s o K w
  | some (j, want) =>
    match (ops[j]?).bind (·.dst) with
    | some d => gd (s d) want (dop P s o) K w
    | none => K undef w

def dops (P : Program) (ops : Array Oper) : List Oper → ((Nat → Value) → World → Prop) → (Nat → Value) → World → Prop
  | [], N, s, w => N s w
  | o :: r, N, s, w => dog P ops s o (fun v w' => dops P ops r N (putE s o.dst v) w') w

/-- whatever order -/
def dAny (P : Program) (ops : Array Oper) (N : (Nat → Value) → World → Prop) : Nat → Array Bool → (Nat → Value) → World → Prop
  | 0, listed, s, w => Region.ready .any ops listed = [] ∧ N s w
  | fuel + 1, listed, s, w =>
    (Region.ready .any ops listed = [] → N s w) ∧
    ∀ i ∈ Region.ready .any ops listed, ∀ o, ops[i]? = some o →
      dog P ops s o (fun v w' => dAny P ops N fuel (listed.setIfInBounds i true) (putE s o.dst v) w') w

def ifb : Value → Prop → Prop → Prop
  | .bool true, a, _ => a
  | .bool false, _, b => b
  | _, _, _ => False

def LoopP (F : ((Nat → Value) → World → Prop) → (Nat → Value) → World → Prop) (s : Nat → Value) (w : World) : Prop :=
  ∃ (I : Nat → (Nat → Value) → World → Prop) (n : Nat), I n s w ∧ ∀ n s w, I n s w → F (fun s' w' => ∃ m, m < n ∧ I m s' w') s w


def den (P : Program) : Code → ((Nat → Value) → World → Prop) → (Nat → (Nat → Value) → World → Prop) → ((Nat → Value) → World → Prop) → (Nat → Value) → World → Prop
  | .skip, N, _, _, s, w => N s w
  | .region _ ops false, N, _, _, s, w => dops P ops ops.toList N s w
  | .region _ ops true, N, _, _, s, w => dAny P ops N ops.size (Array.replicate ops.size false) s (drw w)
  | .seq a b, N, X, R, s, w => den P a (fun s' w' => den P b N X R s' w') X R s w
  | .cond c x y, N, X, R, s, w => ifb (ev s c) (den P x N X R s w) (den P y N X R s w)
  | .block id c, N, X, R, s, w => den P c N (fun i => bif Nat.beq i id then N else X i) R s w
  | .loop c, _, X, R, s, w => LoopP (fun N' s' w' => den P c N' X R s' w') s w
  | .exit id, _, X, _, s, w => X id s w
  | .ret, _, _, R, s, w => R s w
  | _, _, _, _, _, _ => False


def denL (P : Program) : List Code → ((Nat → Value) → World → Prop) → (Nat → (Nat → Value) → World → Prop) → ((Nat → Value) → World → Prop) → (Nat → Value) → World → Prop
  | [], N, _, _ => N
  | c :: r, N, X, R => den P c (denL P r N X R) X R

/-- a part of a code, by its path -/
def cd : Code → List Nat → Code
  | c, [] => c
  | .seq a _, 0 :: r => cd a r
  | .seq _ b, _ :: r => cd b r
  | .cond _ x _, 0 :: r => cd x r
  | .cond _ _ y, _ :: r => cd y r
  | .block _ c, _ :: r => cd c r
  | .loop c, _ :: r => cd c r
  | c, _ => c

def ro : Code → Array Oper
  | .region _ ops _ => ops
  | _ => #[]

/-- a loop over a list of slots -/
def LoopL (F : (List Value → World → Prop) → List Value → World → Prop) (l : List Value) (w : World) : Prop :=
  ∃ (I : Nat → List Value → World → Prop) (n : Nat), I n l w ∧ ∀ n l w, I n l w → F (fun l' w' => ∃ m, m < n ∧ I m l' w') l w

theorem loop_of_L {G : ((Nat → Value) → World → Prop) → (Nat → Value) → World → Prop} {F : (List Value → World → Prop) → List Value → World → Prop} (sel : (Nat → Value) → List Value)
    (hF : ∀ B s w, F B (sel s) w → G (fun s' w' => B (sel s') w') s w) {s : Nat → Value} {w : World} (h : LoopL F (sel s) w) : LoopP G s w :=
  let ⟨I, n, h0, hr⟩ := h
  ⟨fun n s w => I n (sel s) w, n, h0, fun n s w hI => hF _ _ _ (hr n _ w hI)⟩


/-! ### soundness -/
def Ag (n : Nat) (a : Act) (s : Nat → Value) : Prop := a.defers = [] ∧ a.tmps.size = n ∧ ∀ t, a.tmps.getD t undef = s t

theorem Ag.eval {n : Nat} {a : Act} {s : Nat → Value} (h : Ag n a s) : a.eval = ev s := by
  funext x
  cases x with
  | tmp t => exact h.2.2 t
  | const v => rfl
  | global g => rfl
  | func f => rfl

def okDst (n : Nat) (d : Option Nat) : Bool :=
  match d with
  | some d => Nat.blt d n
  | none => true

theorem Ag.put {n : Nat} {a : Act} {s : Nat → Value} (h : Ag n a s) {d : Option Nat} (hd : okDst n d = true) (v : Value) : Ag n (a.put d v) (putE s d v) := by
  cases d with
  | none => exact h
  | some d =>
    have hlt : d < n := by simpa [okDst, Nat.blt_eq] using hd
    refine ⟨h.1, by simpa [Act.put] using h.2.1, fun t => ?_⟩
    by_cases ht : t = d
    · subst ht
      simp [Act.put, putE, upd_same, Array.getD_eq_getD_getElem?, h.2.1, hlt]
    · have := h.2.2 t
      simp only [Act.put, putE, upd_ne s v ht]
      rw [← this]
      simp [Array.getD_eq_getD_getElem?, Array.getElem?_setIfInBounds_ne (Ne.symm ht)]

def okOp (P : Program) (n : Nat) (o : Oper) : Bool :=
  okDst n o.dst

section
variable {P : Program} {n : Nat} {a : Act} {s : Nat → Value} {o : Oper} {K : Value → World → Prop} {w : World} {Q : Exit → Act → World → Prop}

theorem rs_upon {x : Sem Value} (h : rs P x K w) :
    Oper.upon P o a (fun a' w' => ∃ v, a' = a.put o.dst v ∧ K v w') Q ((do let v ← x; pure (Next.value v)).run P w) := by
  replace h := h.go
  rw [Sem.run_bind]
  cases hx : x.run P w with
  | ok v w' => rw [hx] at h; exact ⟨v, rfl, h⟩
  | halt e w' => rw [hx] at h; exact h.elim

theorem ru_upon {x : Sem Unit} (h : ru P x (K undef) w) :
    Oper.upon P o a (fun a' w' => ∃ v, a' = a.put o.dst v ∧ K v w') Q ((do x; pure Next.skip).run P w) := by
  replace h := h.go
  rw [Sem.run_bind]
  cases hx : x.run P w with
  | ok v w' => rw [hx] at h; exact ⟨undef, rfl, h⟩
  | halt e w' => rw [hx] at h; exact h.elim

theorem bi_upon {b : Builtin} {ats : Array TypeId} {t : TypeId} {cs : Array Bool} {args : Array Value} (h : bi P b ats.toList t args.toList K w) :
    Oper.upon P o a (fun a' w' => ∃ v, a' = a.put o.dst v ∧ K v w') Q ((builtin b ats t cs args).run P w) := by
  cases b <;> first | exact h.elim | exact rs_upon h | exact rs_upon (ap_rs h) | exact rs_upon (cp_rs h) | exact rs_upon (ln_rs h) | exact rs_upon (cpc_rs h)

theorem cl_upon {f : FuncId} {args : Array Value} (hf : okF P f = true) (h : cl P f args K w) :
    Oper.upon P o a (fun a' w' => ∃ v, a' = a.put o.dst v ∧ K v w') Q ((callFunc f args).run P w) := by
  unfold okF at hf
  cases hfn : P.funcs[f]? with
  | none => rw [hfn] at hf; cases hf
  | some fn =>
    rw [hfn] at hf
    simp only [Bool.and_eq_true, Bool.not_eq_true'] at hf
    have e : (callFunc f args).run P w = .ok (.enter f args) w := by
      have hb : ¬ fn.body = none := by cases hb : fn.body <;> simp_all
      have hn : ¬ fn.name = "runtime.NumGoroutine" := by simpa using hf.2
      simp [callFunc, program, hfn, hn, hb, Sem.run]
    rw [e]
    exact h.mono fun e w' ⟨v, he, hk⟩ => by subst he; exact ⟨v, rfl, hk⟩

theorem cx_upon {f : FuncId} {args : Array Value} (h : cx P f args K w) :
    Oper.upon P o a (fun a' w' => ∃ v, a' = a.put o.dst v ∧ K v w') Q ((callFunc f args).run P w) := by
  unfold cx at h
  cases hx : (callFunc f args).run P w with
  | ok v w' =>
    rw [hx] at h
    cases v <;> first | exact h.elim | exact ⟨_, rfl, h⟩
  | halt e w' => rw [hx] at h; exact h.elim

theorem toArr {α β : Type} (f : α → β) (xs : Array α) : (xs.toList.map f).toArray = xs.map f := by
  apply Array.ext'
  simp

theorem dop_sound (hA : Ag n a s) (ho : okOp P n o = true) (h : dop P s o K w) :
    o.wp P a w (fun a' w' => ∃ v, a' = a.put o.dst v ∧ K v w') Q := by
  unfold Oper.wp
  rw [hA.eval]
  obtain ⟨dst, op, type, pos, after, guard⟩ := o
  cases op <;> simp only [dop] at h <;> simp only [execOp]
  all_goals try exact h.elim
  case move x => exact ⟨_, rfl, h⟩
  case assign x => exact ⟨_, rfl, h⟩
  case alloc t => exact rs_upon (al_rs h)
  case box t x => exact rs_upon (nw_box h)
  case build t ps => have := bd_rs h; rw [toArr] at this; exact rs_upon this
  case buildSlice t n ps => have := bs_rs h; rw [toArr] at this; exact rs_upon this
  case load t x => exact rs_upon (ld_rs h)
  case store t x y => exact ru_upon (st_ru h)
  case binOp op t x y u => exact rs_upon (bo_bor h)
  case unOp op t x => exact rs_upon (un_rs h)
  case convert x y z => exact rs_upon (cv_rs h)
  case makeInterface t x => exact rs_upon (mi_rs h)
  case makeFunc fn fs cs => simp only [toArr] at h; exact ⟨_, rfl, h⟩
  case makeSlice t l c => exact rs_upon (ms_rs h)
  case slice t x lo hi mx => exact rs_upon (sl_rs h)
  case fieldAddr t x f => exact rs_upon (fa_rs h)
  case indexAddr t x i => exact rs_upon (ix_rs h)
  case typeAssert x t u ok => exact rs_upon (ta_rs h)
  case extract x i => exact rs_upon (exq_rs h)
  case makeMap t r => exact rs_upon h
  case field t x f => exact rs_upon h
  case index t x i => exact rs_upon h
  case lookup t x i ok => exact rs_upon h
  case mapUpdate t m k x => exact ru_upon h
  case insert t m k x => exact ru_upon h
  case range t x => exact rs_upon h
  case next it b => exact rs_upon h
  case pick c x y =>
    unfold pk at h
    split at h
    · rename_i b he
      simp only [he, asBool]
      refine ⟨_, rfl, ?_⟩
      cases b <;> exact h
    · exact h.elim
  case nilCheck x =>
    unfold nck at h
    split at h
    · rename_i b he
      simp only [he]
      exact ⟨_, rfl, h⟩
    · exact h.elim
  case call c =>
    obtain ⟨callee, args, ats⟩ := c
    cases callee with
    | value f =>
      cases f with
      | func f =>
        simp only [toArr] at h
        simp only [resolve, ev]
        cases hokf : okF P f with
        | true =>
          rw [hokf] at h
          have := cl_upon (o := ⟨dst, .call ⟨.value (.func f), args, ats⟩, type, pos, after, guard⟩) (a := a) (Q := Q) hokf h
          simpa [Deferred.ofValue, invoke] using this
        | false =>
          rw [hokf] at h
          have := cx_upon (o := ⟨dst, .call ⟨.value (.func f), args, ats⟩, type, pos, after, guard⟩) (a := a) (Q := Q) h
          simpa [Deferred.ofValue, invoke] using this
      | tmp t =>
        simp only [toArr] at h
        simp only [resolve]
        unfold cdy at h
        split at h
        · rename_i g first cap e
          obtain ⟨hg, h⟩ := h
          rw [e]
          have := cl_upon (o := ⟨dst, .call ⟨.value (.tmp t), args, ats⟩, type, pos, after, guard⟩) (a := a) (Q := Q) hg h
          simpa [Deferred.ofValue, invoke] using this
        · exact h.elim
      | const v => exact h.elim
      | global g => exact h.elim
    | invoke r m => exact h.elim
    | builtin b =>
      simp only [resolve]
      refine bi_upon ?_
      rw [Array.toList_map]
      exact h

theorem dog_sound {ops : Array Oper} (hA : Ag n a s) (ho : okOp P n o = true) (h : dog P ops s o K w) :
    if Region.wanted o (yielded ops a.tmps) then o.wp P a w (fun a' w' => ∃ v, a' = a.put o.dst v ∧ K v w') Q ∨ (o.asks P a w ∧ LetsOut Q)
    else ∃ v, a.put o.dst undef = a.put o.dst v ∧ K v w := by
  unfold dog at h
  cases hg : o.guard with
  | none =>
    rw [hg] at h
    rw [if_pos (by simp [Region.wanted, hg])]
    exact .inl (dop_sound hA ho h)
  | some g =>
    obtain ⟨j, want⟩ := g
    rw [hg] at h
    simp only at h
    cases hd : (ops[j]?).bind (·.dst) with
    | none =>
      rw [hd] at h
      rw [if_neg (by simp [Region.wanted, hg, yielded, hd])]
      exact ⟨_, rfl, h⟩
    | some d =>
      rw [hd] at h
      have h := h.out
      simp only [gdp] at h
      by_cases hlt : d < n
      · have hs : a.tmps[d]? = some (s d) := by
          have h2 := hA.2.2 d
          have h3 : d < a.tmps.size := by rw [hA.2.1]; exact hlt
          rw [Array.getD_eq_getD_getElem?, Array.getElem?_eq_getElem h3] at h2
          rw [Array.getElem?_eq_getElem h3, ← h2]
          rfl
        split at h
        · rename_i b hb
          have hy : yielded ops a.tmps j = some b := by simp [yielded, hd, hs, hb]
          cases hbw : (b == want) with
          | true =>
            rw [hbw] at h
            rw [if_pos (by simp only [Region.wanted, hg, hy]; simpa using hbw)]
            exact .inl (dop_sound hA ho h)
          | false =>
            rw [hbw] at h
            rw [if_neg (by simp only [Region.wanted, hg, hy]; simpa using hbw)]
            exact ⟨_, rfl, h⟩
        · rename_i hb
          have hy : yielded ops a.tmps j = none := by
            simp only [yielded, hd, Option.bind_some, hs]
            cases hv : s d <;> first | rfl | exact absurd hv (hb _)
          rw [if_neg (by simp [Region.wanted, hg, hy])]
          exact ⟨_, rfl, h⟩
      · have h3 : a.tmps.size ≤ d := by rw [hA.2.1]; exact Nat.le_of_not_lt hlt
        have hs : a.tmps[d]? = none := Array.getElem?_eq_none h3
        have hu : s d = undef := by rw [← hA.2.2 d, Array.getD_eq_getD_getElem?, hs]; rfl
        rw [hu] at h
        have hy : yielded ops a.tmps j = none := by simp [yielded, hd, hs]
        rw [if_neg (by simp [Region.wanted, hg, hy])]
        exact ⟨_, rfl, h⟩
end

theorem dops_sound {P : Program} {n : Nat} {ops : Array Oper} {Q : Exit → Act → World → Prop} {N : (Nat → Value) → World → Prop}
    (hN : ∀ a s w, Ag n a s → N s w → Q .normal a w) :
    ∀ (l : List Oper) (a : Act) (s : Nat → Value) (w : World), Ag n a s → l.all (okOp P n) = true → dops P ops l N s w → wpList P ops Q l a w
  | [], a, s, w, hA, _, h => hN a s w hA h
  | o :: r, a, s, w, hA, ho, h => by
    simp only [List.all_cons, Bool.and_eq_true] at ho
    have hd : okDst n o.dst = true := ho.1
    have h1 := dog_sound (Q := Q) hA ho.1 h
    unfold wpList
    split
    · rename_i hw
      rw [if_pos hw] at h1
      rcases h1 with h1 | h1
      · refine .inl (Oper.wp_mono ?_ h1)
        rintro a' w' ⟨v, rfl, hk⟩
        exact dops_sound hN r _ _ _ (hA.put hd v) ho.2 hk
      · exact .inr h1
    · rename_i hw
      rw [if_neg hw] at h1
      obtain ⟨v, he, hk⟩ := h1
      rw [he]
      exact dops_sound hN r _ _ _ (hA.put hd v) ho.2 hk

theorem dAny_sound {P : Program} {n : Nat} {ops : Array Oper} {Q : Exit → Act → World → Prop} {N : (Nat → Value) → World → Prop}
    (hN : ∀ a s w, Ag n a s → N s w → Q .normal a w) (hok : ops.toList.all (okOp P n) = true) :
    ∀ (fuel : Nat) (listed : Array Bool) (a : Act) (s : Nat → Value) (w : World), Ag n a s → dAny P ops N fuel listed s w → wpAny P .any ops Q fuel listed a w
  | 0, _, a, s, w, hA, h => ⟨h.1, hN a s w hA h.2⟩
  | fuel + 1, listed, a, s, w, hA, h => by
    refine ⟨fun h0 => hN a s w hA (h.1 h0), fun i hi => ?_⟩
    unfold wpOp
    cases ho : ops[i]? with
    | none =>
      exfalso
      simp only [Region.ready, List.mem_filter, List.mem_range] at hi
      rw [Array.getElem?_eq_getElem hi.1] at ho
      cases ho
    | some o =>
      have hmem : o ∈ ops.toList := by
        have := Array.mem_of_getElem? ho
        exact Array.mem_toList_iff.2 this
      have ho' : okOp P n o = true := List.all_eq_true.1 hok o hmem
      have hd : okDst n o.dst = true := ho'
      have h1 := dog_sound (Q := Q) hA ho' (h.2 i hi o ho)
      simp only
      split
      · rename_i hw
        rw [if_pos hw] at h1
        rcases h1 with h1 | h1
        · refine .inl (Oper.wp_mono ?_ h1)
          rintro a' w' ⟨v, rfl, hk⟩
          exact dAny_sound hN hok fuel _ _ _ _ (hA.put hd v) hk
        · exact .inr h1
      · rename_i hw
        rw [if_neg hw] at h1
        obtain ⟨v, he, hk⟩ := h1
        rw [he]
        exact dAny_sound hN hok fuel _ _ _ _ (hA.put hd v) hk

def okCode (P : Program) (n : Nat) : Code → Bool
  | .region _ ops _ => ops.toList.all (okOp P n)
  | .seq a b => okCode P n a && okCode P n b
  | .cond _ x y => okCode P n x && okCode P n y
  | .block _ c => okCode P n c
  | .loop c => okCode P n c
  | _ => true

def post (n : Nat) (N : (Nat → Value) → World → Prop) (X : Nat → (Nat → Value) → World → Prop) (R : (Nat → Value) → World → Prop) : Exit → Act → World → Prop
  | .normal, a, w => ∃ s, Ag n a s ∧ N s w
  | .exit i, a, w => ∃ s, Ag n a s ∧ X i s w
  | .ret, a, w => ∃ s, Ag n a s ∧ R s w
  | _, _, _ => False

theorem den_sound {P : Program} {n : Nat} (hm : P.follows .mixedOrders = true) : ∀ (c : Code) (N : (Nat → Value) → World → Prop) (X : Nat → (Nat → Value) → World → Prop)
    (R : (Nat → Value) → World → Prop) (s : Nat → Value) (w : World) (a : Act), okCode P n c = true → Ag n a s → den P c N X R s w → c.wp P (post n N X R) a w := by
  intro c
  induction c with
  | skip => intro N X R s w a _ hA h; exact wp_skip ⟨s, hA, h⟩
  | region id ops draw =>
    intro N X R s w a hok hA h
    cases draw with
    | false => exact wp_region_list (dops_sound (fun a s w hA h => ⟨s, hA, h⟩) _ a s w hA hok h)
    | true => exact wp_region_any hm (dAny_sound (fun a s w hA h => ⟨s, hA, h⟩) hok _ _ a s _ hA h)
  | seq x y ihx ihy =>
    intro N X R s w a hok hA h
    simp only [okCode, Bool.and_eq_true] at hok
    refine wp_seq (wp_mono (ihx _ X R s w a hok.1 hA h) ?_)
    intro e a' w' hq
    cases e with
    | normal => obtain ⟨s', hA', h'⟩ := hq; exact ihy N X R s' w' a' hok.2 hA' h'
    | exit i => exact hq
    | ret => exact hq
    | goto l => exact hq
    | panic ch => exact hq
    | outgrown => exact hq
  | cond c x y ihx ihy =>
    intro N X R s w a hok hA h
    simp only [okCode, Bool.and_eq_true] at hok
    simp only [den] at h
    unfold ifb at h
    split at h
    · rename_i he; exact wp_cond_true (by rw [hA.eval, he]) (ihx N X R s w a hok.1 hA h)
    · rename_i he; exact wp_cond_false (by rw [hA.eval, he]) (ihy N X R s w a hok.2 hA h)
    · exact h.elim
  | block id c ih =>
    intro N X R s w a hok hA h
    refine wp_block (wp_mono (ih N _ R s w a hok hA h) ?_)
    intro e a' w' hq
    cases e with
    | normal => exact hq
    | exit i =>
      obtain ⟨s', hA', h'⟩ := hq
      simp only [Exit.inBlock]
      cases hi : Nat.beq i id with
      | true =>
        have : i = id := Nat.eq_of_beq_eq_true hi
        rw [hi] at h'
        rw [if_pos this]
        exact ⟨s', hA', h'⟩
      | false =>
        have : i ≠ id := Nat.ne_of_beq_eq_false hi
        rw [hi] at h'
        rw [if_neg this]
        exact ⟨s', hA', h'⟩
    | ret => exact hq
    | goto l => exact hq
    | panic ch => exact hq
    | outgrown => exact hq
  | loop c ih =>
    intro N X R s w a hok hA h
    obtain ⟨I, k, h0, hr⟩ := h
    refine wp_loop_ghost (fun k a w => ∃ s, Ag n a s ∧ I k s w) k ⟨s, hA, h0⟩ ?_
    rintro k a w ⟨s, hA, hI⟩
    refine wp_mono (ih _ X R s w a hok hA (hr k s w hI)) ?_
    intro e a' w' hq
    cases e with
    | normal => obtain ⟨s', hA', m, hlt, hI'⟩ := hq; exact ⟨m, hlt, s', hA', hI'⟩
    | exit i => exact hq
    | ret => exact hq
    | goto l => exact hq
    | panic ch => exact hq
    | outgrown => exact hq
  | exit id => intro N X R s w a _ hA h; exact wp_exit ⟨s, hA, h⟩
  | ret => intro N X R s w a _ hA h; exact wp_ret ⟨s, hA, h⟩
  | rangeFunc f ps as b _ _ => intro N X R s w a _ _ h; exact h.elim
  | scope b _ => intro N X R s w a _ _ h; exact h.elim
  | label l => intro N X R s w a _ _ h; exact h.elim
  | goto l => intro N X R s w a _ _ h; exact h.elim
  | refuse m => intro N X R s w a _ _ h; exact h.elim

/-! ### a whole function -/
/-- the results, read off the slots -/
def retv (P : Program) (s : Nat → Value) : List ResultVar → (List Value → Prop) → World → Prop
  | [], K, _ => K []
  | .tmp t :: r, K, w => retv P s r (fun vs => K (s t :: vs)) w
  | .cell a t :: r, K, w => ld P t (s a) (fun v _ => retv P s r (fun vs => K (v :: vs)) w) w

def pack : List Value → Value
  | [v] => v
  | vs => .tuple vs.toArray

def st0 (args : Array Value) : Nat → Value := fun t => args.getD t undef

theorem retv_run {P : Program} {s : Nat → Value} {tmps : Array Value} (hs : ∀ t, tmps.getD t undef = s t) {w : World} (g : ResultVar → Sem Value)
    (hg1 : ∀ t, g (.tmp t) = pure (tmps.getD t undef)) (hg2 : ∀ a t, g (.cell a t) = (asAddr (tmps.getD a undef) >>= fun x => loadVar t x)) :
    ∀ (l : List ResultVar) (K : List Value → Prop), retv P s l K w → ∃ vs, (l.mapM g).run P w = .ok vs w ∧ K vs
  | [], K, h => ⟨[], by simp [pure, Sem.run], h⟩
  | .tmp t :: r, K, h => by
    obtain ⟨vs, h1, h2⟩ := retv_run hs g hg1 hg2 r _ h
    refine ⟨s t :: vs, ?_, h2⟩
    rw [List.mapM_cons, hg1, pure_bind, Sem.run_bind, h1, hs t]
    rfl
  | .cell a t :: r, K, h => by
    simp only [retv] at h
    obtain ⟨ad, he⟩ := ld_ptr h
    rw [he] at h
    obtain ⟨v, hl, h⟩ := loadVar_of h
    obtain ⟨vs, h1, h2⟩ := retv_run hs g hg1 hg2 r _ h
    refine ⟨v :: vs, ?_, h2⟩
    have e : (asAddr (tmps.getD a undef)) = pure ad := by rw [hs a, he]; rfl
    rw [List.mapM_cons, hg2, e, pure_bind, Sem.run_bind, hl, Result.andThen_ok, Sem.run_bind, h1]
    rfl

theorem calls_of_den {P : Program} {f : FuncId} {fn : Func} {c : Code} {args : Array Value} {w : World} {K : Value → World → Prop}
    (hf : P.funcs[f]? = some fn) (hb : fn.body = some c) (hm : P.follows .mixedOrders = true) (hn : args.size ≤ fn.ntmps) (hok : okCode P fn.ntmps c = true)
    (h : den P c (fun s w => retv P s fn.results.toList (fun vs => K (pack vs) w) w) (fun _ _ _ => False) (fun s w => retv P s fn.results.toList (fun vs => K (pack vs) w) w) (st0 args) w) :
    cl P f args K w := by
  have hA : Ag fn.ntmps { tmps := args ++ Array.replicate (fn.ntmps - args.size) undef, defers := [] } (st0 args) := by
    refine ⟨rfl, by simp; omega, fun t => ?_⟩
    simp only [st0, Array.getD_eq_getD_getElem?, Array.getElem?_append, Array.getElem?_replicate]
    by_cases h1 : t < args.size
    · rw [if_pos h1]
    · rw [if_neg h1, Array.getElem?_eq_none (by omega)]
      split <;> rfl
  refine calls_of_wp hf hb (wp_mono (den_sound hm c _ _ _ _ _ _ hok hA h) ?_)
  have fin : ∀ (a : Act) (w : World), (∃ s, Ag fn.ntmps a s ∧ retv P s fn.results.toList (fun vs => K (pack vs) w) w) →
      a.defers = [] ∧ ∃ v, (results fn a.tmps).run P w = .ok v w ∧ ∃ u, Ending.returned v = .returned u ∧ K u w := by
    rintro a w ⟨s, hA, h⟩
    unfold results
    rw [Array.mapM_eq_mapM_toList]
    generalize hg : (fun x => match x with | ResultVar.tmp t => pure (a.tmps.getD t undef) | ResultVar.cell x t => (asAddr (a.tmps.getD x undef) >>= fun y => loadVar t y) : ResultVar → Sem Value) = g
    obtain ⟨vs, h1, h2⟩ := retv_run hA.2.2 g (by subst hg; exact fun _ => rfl) (by subst hg; exact fun _ _ => rfl) _ _ h
    refine ⟨hA.1, pack vs, ?_, _, rfl, h2⟩
    have hg' : ∀ g' : ResultVar → Sem Value, (∀ x, g' x = g x) → (List.mapM g' fn.results.toList).run P w = .ok vs w := by
      intro g' e
      rw [funext e]; exact h1
    rw [Sem.run_bind, Sem.run_map, hg' _ (by subst hg; intro x; cases x <;> rfl)]
    simp only [Result.andThen_ok]
    show Result.ok _ _ = _
    congr 1
    cases vs with
    | nil => rfl
    | cons v vs => cases vs <;> simp [pack]
  intro e a' w' hq
  cases e with
  | normal => exact fin a' w' hq
  | ret => exact fin a' w' hq
  | exit i => obtain ⟨_, _, h⟩ := hq; exact h.elim
  | goto l => exact hq.elim
  | panic ch => exact hq.elim
  | outgrown => exact hq.elim

end Go.Sh
