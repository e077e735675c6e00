/-
  The theorem on a region that draws its order: 'dAny_mix'.
-/
import Derived.Test.Qxb6500898aShStill
namespace Go.Sh
open Go.RowKit
set_option linter.unusedVariables false
set_option linter.unusedSimpArgs false

def allL : List Nat → (Nat → Prop) → Prop
  | [], _ => True
  | [i], f => f i
  | i :: j :: r, f => f i ∧ allL (j :: r) f

theorem allL_mem : ∀ {l : List Nat} {f : Nat → Prop}, allL l f → ∀ i ∈ l, f i
  | [], _, _, i, hi => by cases hi
  | [j], f, h, i, hi => by simp at hi; subst hi; exact h
  | a :: b :: r, f, h, i, hi => by
    rcases List.mem_cons.1 hi with rfl | hi
    · exact h.1
    · exact allL_mem h.2 i hi

/-- one value, in every world that has grown from w0, and the world stays -/
def qv (X : (Value → World → Prop) → World → Prop) (w0 : World) (k : Value → Prop) : Prop :=
  ∃ v, (∀ w, Below w0.heap.size w0 w → X (fun v' w' => v' = v ∧ w' = w) w) ∧ k v

def c1 (P : Program) (ops : Array Oper) (s : Nat → Value) (o : Oper) (w0 : World) (k : Value → Prop) : Prop :=
  bif nice P o then dog P ops s o (fun v _ => k v) w0 else qv (dog P ops s o) w0 k

def dC (P : Program) (ops : Array Oper) (w0 : World) : List Nat → ((Nat → Value) → Prop) → (Nat → Value) → Prop
  | [], k, s => k s
  | i :: r, k, s => match ops[i]? with
    | some o => c1 P ops s o w0 (fun v => dC P ops w0 r k (putE s o.dst v))
    | none => False

def preOf (ops : Array Oper) (i : Nat) : List Nat :=
  match ops[i]? with
  | some o => (o.after.toList.filter fun e => Region.binds .any e).map (·.on)
  | none => []
def dstOf (ops : Array Oper) (i : Nat) : Option Nat := (ops[i]?).bind (·.dst)
def rdOf (ops : Array Oper) (i : Nat) : List Nat :=
  match ops[i]? with
  | some o => rd ops o
  | none => []
def memB (i : Nat) : List Nat → Bool
  | [] => false
  | j :: r => bif Nat.beq i j then true else memB i r
theorem memB_iff {i : Nat} : ∀ {l : List Nat}, memB i l = true ↔ i ∈ l
  | [] => by simp [memB]
  | j :: r => by
    simp only [memB, List.mem_cons]
    cases h : Nat.beq i j with
    | true => simp [Nat.eq_of_beq_eq_true h]
    | false => simp [memB_iff, Nat.ne_of_beq_eq_false h]

/-- what comes before an operation, as the bits of a number: given, and checked -/
def mskOf (ms : List Nat) : List Nat → Nat
  | [] => 0
  | e :: r => Nat.lor (Nat.lor (2 ^ e) (ms.getD e 0)) (mskOf ms r)
def chkM (ops : Array Oper) (ms : List Nat) : Bool := (List.range ops.size).all fun i => Nat.beq (ms.getD i 0) (mskOf ms (preOf ops i))

def lastB (ms : List Nat) (cs : List Nat) (i : Nat) : Bool := cs.all fun j => Nat.testBit (ms.getD i 0) j

def stiffAt (ops : Array Oper) (j : Nat) : Bool := match ops[j]? with
  | some o => stiff o
  | none => true
/-- those that look at memory -/
def hard (ops : Array Oper) (cs : List Nat) : List Nat := cs.filter fun j => !stiffAt ops j

def sd (b : Bool) (w0 w : World) (Q : Prop) : Prop := bif b then Q else (Below w0.heap.size w0 w ∧ Q)

def dF (P : Program) (ops : Array Oper) (last : Nat → Bool) (w0 : World) (N : (Nat → Value) → World → Prop) : Nat → Array Bool → (Nat → Value) → World → Prop
  | 0, l, s, w => match Region.ready .any ops l with
    | [] => N s w
    | _ => False
  | f + 1, l, s, w => match Region.ready .any ops l with
    | [] => N s w
    | i :: r => allL (i :: r) fun i => match ops[i]? with
      | some o => dog P ops s o (fun v w' => sd (last i) w0 w' (dF P ops last w0 N f (l.setIfInBounds i true) (putE s o.dst v) w')) w
      | none => False

def mrk (n : Nat) (cs : List Nat) : Array Bool := ((List.range n).map fun i => memB i cs).toArray

def clash (d : Option Nat) (l : List Nat) : Bool :=
  match d with
  | some d => memB d l
  | none => false
def sameD (d e : Option Nat) : Bool :=
  match d, e with
  | some d, some e => Nat.beq d e
  | _, _ => false
def sortB : List Nat → Bool
  | [] => true
  | i :: r => r.all (fun j => Nat.blt i j) && sortB r

def chk (ops : Array Oper) (cs : List Nat) : Bool :=
  cs.all (fun j => Nat.blt j ops.size) && sortB cs &&
  (List.range ops.size).all fun i =>
    (preOf ops i).all (fun e => Nat.blt e i) &&
    cs.all fun j =>
      (Nat.beq j i || !sameD (dstOf ops j) (dstOf ops i)) &&
      (!clash (dstOf ops j) (rdOf ops i) || memB j (preOf ops i)) &&
      (memB i cs || !clash (dstOf ops i) (rdOf ops j))

section
variable {P : Program} {ops : Array Oper} {ms cs : List Nat} {w0 : World} {N : (Nat → Value) → World → Prop}

structure Chk (ops : Array Oper) (cs : List Nat) : Prop where
  lt : ∀ j ∈ cs, j < ops.size
  sorted : sortB cs = true
  acyc : ∀ i, i < ops.size → ∀ e ∈ preOf ops i, e < i
  dst : ∀ i, i < ops.size → ∀ j ∈ cs, j ≠ i → ∀ d, dstOf ops j = some d → dstOf ops i ≠ some d
  rdw : ∀ i, i < ops.size → ∀ j ∈ cs, ∀ d, dstOf ops j = some d → d ∈ rdOf ops i → j ∈ preOf ops i
  fr : ∀ i, i < ops.size → ∀ j ∈ cs, i ∉ cs → ∀ d, dstOf ops i = some d → d ∉ rdOf ops j

theorem chk_spec (h : chk ops cs = true) : Chk ops cs := by
  simp only [chk, Bool.and_eq_true, List.all_eq_true, List.mem_range] at h
  obtain ⟨⟨h1, h2⟩, h3⟩ := h
  refine ⟨fun j hj => by simpa [Nat.blt_eq] using h1 j hj, h2, fun i hi e he => by simpa [Nat.blt_eq] using (h3 i hi).1 e he, ?_, ?_, ?_⟩
  · intro i hi j hj hne d hd he
    have := ((h3 i hi).2 j hj).1.1
    simp only [Bool.or_eq_true, Bool.not_eq_true'] at this
    rcases this with h | h
    · exact hne (Nat.eq_of_beq_eq_true h)
    · simp [sameD, hd, he] at h
  · intro i hi j hj d hd hr
    have := ((h3 i hi).2 j hj).1.2
    simp only [Bool.or_eq_true, Bool.not_eq_true', clash, hd] at this
    rcases this with h | h
    · rw [memB_iff.2 hr] at h; cases h
    · exact memB_iff.1 h
  · intro i hi j hj hn d hd hr
    have := ((h3 i hi).2 j hj).2
    simp only [Bool.or_eq_true, Bool.not_eq_true', clash, hd] at this
    rcases this with h | h
    · exact hn (memB_iff.1 h)
    · rw [memB_iff.2 hr] at h; cases h

/-- what the walk of the still operations gives -/
theorem c1_spec {s : Nat → Value} {o : Oper} {k : Value → Prop} (h : c1 P ops s o w0 k) :
    ∃ v, (∀ w, stiff o = true ∨ Below w0.heap.size w0 w → dog P ops s o (fun v' w' => v' = v ∧ w' = w) w) ∧ k v := by
  unfold c1 at h
  cases hs : stiff o with
  | true =>
    rw [stiff_nice hs] at h
    obtain ⟨v, h1, h2⟩ := stiff_dog hs w0 k h
    exact ⟨v, fun w _ => h1 w, h2⟩
  | false =>
    cases e : nice P o with
    | true =>
      rw [e] at h
      obtain ⟨v, h1, h2⟩ := still_dog e w0 k h
      exact ⟨v, fun w hw => h1 w (hw.resolve_left (fun q => by cases q)), h2⟩
    | false =>
      rw [e] at h
      obtain ⟨v, h1, h2⟩ := h
      exact ⟨v, fun w hw => h1 w (hw.resolve_left (fun q => by cases q)), h2⟩

theorem putE_ne {s : Nat → Value} {d : Option Nat} {v : Value} {t : Nat} (h : d ≠ some t) : putE s d v t = s t := by
  cases d with
  | none => rfl
  | some d => exact upd_ne s v (fun e => h (by rw [e]))
theorem putE_same {s : Nat → Value} {d : Nat} {v : Value} : putE s (some d) v d = v := upd_same s d v

theorem dC_spec (hc : Chk ops cs) : ∀ (l : List Nat) (k : (Nat → Value) → Prop) (s : Nat → Value), (∀ j ∈ l, j ∈ cs) → sortB l = true → dC P ops w0 l k s →
    ∃ sC, k sC ∧ (∀ t, (∀ j ∈ l, dstOf ops j ≠ some t) → sC t = s t) ∧
      ∀ j ∈ l, ∀ o, ops[j]? = some o → ∃ cv, (∀ d, o.dst = some d → sC d = cv) ∧
        ∀ s', (∀ t ∈ rd ops o, s' t = sC t) → ∀ w, stiff o = true ∨ Below w0.heap.size w0 w → dog P ops s' o (fun v w' => v = cv ∧ w' = w) w
  | [], k, s, _, _, h => ⟨s, h, fun _ _ => rfl, fun j hj => by cases hj⟩
  | i :: r, k, s, hl, hs, h => by
    simp only [dC] at h
    split at h
    · rename_i o ho
      obtain ⟨v, hv, hk⟩ := c1_spec h
      simp only [sortB, Bool.and_eq_true, List.all_eq_true] at hs
      obtain ⟨sC, h1, h2, h3⟩ := dC_spec hc r k _ (fun j hj => hl j (List.mem_cons_of_mem _ hj)) hs.2 hk
      have hi : i < ops.size := hc.lt i (hl i (List.mem_cons_self ..))
      have hdi : dstOf ops i = o.dst := by simp [dstOf, ho]
      have hri : rdOf ops i = rd ops o := by simp [rdOf, ho]
      have hlt : ∀ j ∈ r, i < j := fun j hj => by simpa [Nat.blt_eq] using hs.1 j hj
      -- the slots that it reads are written by none from here on
      have hrd : ∀ t ∈ rd ops o, sC t = s t := by
        intro t ht
        rw [h2 t (fun j hj hd => by
          have := hc.acyc i hi j (hc.rdw i hi j (hl j (List.mem_cons_of_mem _ hj)) t hd (by rw [hri]; exact ht))
          have := hlt j hj
          omega)]
        refine putE_ne (fun hd => ?_)
        have := hc.acyc i hi i (hc.rdw i hi i (hl i (List.mem_cons_self ..)) t (by rw [hdi, hd]) (by rw [hri]; exact ht))
        omega
      refine ⟨sC, h1, ?_, ?_⟩
      · intro t ht
        rw [h2 t (fun j hj => ht j (List.mem_cons_of_mem _ hj))]
        exact putE_ne (by rw [← hdi]; exact ht i (List.mem_cons_self ..))
      · intro j hj oj hoj
        rcases List.mem_cons.1 hj with rfl | hj
        · rw [ho] at hoj; cases hoj
          refine ⟨v, ?_, ?_⟩
          · intro d hd
            rw [h2 d (fun j' hj' hd' => by
              have hne : j' ≠ j := by have := hlt j' hj'; omega
              exact hc.dst j hi j' (hl j' (List.mem_cons_of_mem _ hj')) hne d hd' (by rw [hdi, hd]))]
            rw [hd]; exact putE_same
          · intro s' hs' w hw
            rw [dog_congr (s' := s) (fun t ht => by rw [hs' t ht, hrd t ht])]
            exact hv w hw
        · exact h3 j hj oj hoj
    · exact h.elim

/-! ### counting -/
def cnt (l : Array Bool) : Nat → Nat
  | 0 => 0
  | k + 1 => cnt l k + bif l.getD k true then 0 else 1

theorem getD_set (l : Array Bool) (i k : Nat) : (l.setIfInBounds i true).getD k true = (Nat.beq k i || l.getD k true) := by
  simp only [Array.getD_eq_getD_getElem?, Array.getElem?_setIfInBounds]
  by_cases h : i = k
  · subst h
    rw [if_pos rfl]
    split <;> simp
  · have : Nat.beq k i = false := by rw [← Bool.not_eq_true, Nat.beq_eq]; exact fun e => h e.symm
    rw [if_neg h, this, Bool.false_or]

theorem cnt_set (l : Array Bool) (i : Nat) (hf : l.getD i true = false) : ∀ k, cnt (l.setIfInBounds i true) k + (bif Nat.blt i k then 1 else 0) = cnt l k
  | 0 => by
    have e : Nat.blt i 0 = false := by rw [← Bool.not_eq_true, Nat.blt_eq]; omega
    rw [e]; rfl
  | k + 1 => by
    have ih := cnt_set l i hf k
    simp only [cnt, getD_set]
    by_cases h : k = i
    · subst h
      have e1 : Nat.blt k k = false := by rw [← Bool.not_eq_true, Nat.blt_eq]; omega
      have e2 : Nat.blt k (k + 1) = true := by rw [Nat.blt_eq]; omega
      rw [e1] at ih
      simp only [e2, hf, Nat.beq_refl, Bool.true_or, cond_true, cond_false] at *
      omega
    · have e0 : Nat.beq k i = false := by rw [← Bool.not_eq_true, Nat.beq_eq]; exact h
      rw [e0, Bool.false_or]
      have e3 : Nat.blt i (k + 1) = Nat.blt i k := by
        rw [Bool.eq_iff_iff, Nat.blt_eq, Nat.blt_eq]; omega
      rw [e3]
      omega

theorem cnt_zero (l : Array Bool) : ∀ k, cnt l k = 0 → ∀ i, i < k → l.getD i true = true
  | 0, _, i, hi => absurd hi (Nat.not_lt_zero _)
  | k + 1, h, i, hi => by
    simp only [cnt] at h
    rcases Nat.lt_succ_iff_lt_or_eq.1 hi with h1 | h1
    · exact cnt_zero l k (by omega) i h1
    · subst h1
      cases hb : l.getD i true with
      | true => rfl
      | false => rw [hb] at h; simp at h

theorem getD_ft {l : Array Bool} {i : Nat} (h : i < l.size) : l.getD i false = l.getD i true := by
  simp [Array.getD_eq_getD_getElem?, Array.getElem?_eq_getElem h]

theorem mem_rdy {l : Array Bool} {i : Nat} (hsz : l.size = ops.size) (hac : ∀ i, i < ops.size → ∀ e ∈ preOf ops i, e < i) :
    i ∈ Region.ready .any ops l ↔ i < ops.size ∧ l.getD i true = false ∧ ∀ e ∈ preOf ops i, l.getD e true = true := by
  simp only [Region.ready, List.mem_filter, List.mem_range, Bool.and_eq_true, Bool.not_eq_true']
  constructor
  · rintro ⟨hi, hf, hp⟩
    refine ⟨hi, hf, ?_⟩
    intro e he
    have helt := hac i hi e he
    rw [Array.getElem?_eq_getElem hi] at hp
    simp only [preOf, Array.getElem?_eq_getElem hi, List.mem_map, List.mem_filter] at he
    obtain ⟨ed, ⟨hed, hb⟩, rfl⟩ := he
    simp only [Option.map_some, Option.getD_some, Array.all_eq_true'] at hp
    have := hp ed (Array.mem_toList_iff.1 hed)
    simp only [hb, Bool.not_true, Bool.false_or] at this
    rw [← getD_ft (by omega)]; exact this
  · rintro ⟨hi, hf, hp⟩
    refine ⟨hi, hf, ?_⟩
    rw [Array.getElem?_eq_getElem hi]
    simp only [Option.map_some, Option.getD_some, Array.all_eq_true']
    intro ed hed
    cases hb : Region.binds .any ed with
    | false => rfl
    | true =>
      have hm : ed.on ∈ preOf ops i := by
        simp only [preOf, Array.getElem?_eq_getElem hi, List.mem_map, List.mem_filter]
        exact ⟨ed, ⟨Array.mem_toList_iff.2 hed, hb⟩, rfl⟩
      have helt := hac i hi _ hm
      simp only [Bool.not_true, Bool.false_or]
      rw [getD_ft (by omega)]; exact hp _ hm

theorem rdy_nil {l : Array Bool} (hsz : l.size = ops.size) (hac : ∀ i, i < ops.size → ∀ e ∈ preOf ops i, e < i) (h : Region.ready .any ops l = []) :
    ∀ i, i < ops.size → l.getD i true = true := by
  intro i
  induction i using Nat.strongRecOn with
  | _ i ih =>
    intro hi
    cases hb : l.getD i true with
    | true => rfl
    | false =>
      have : i ∈ Region.ready .any ops l := (mem_rdy hsz hac).2 ⟨hi, hb, fun e he => ih e (hac i hi e he) (Nat.lt_trans (hac i hi e he) hi)⟩
      rw [h] at this; cases this

theorem rdy_all {l : Array Bool} (hsz : l.size = ops.size) (hac : ∀ i, i < ops.size → ∀ e ∈ preOf ops i, e < i) (h : ∀ i, i < ops.size → l.getD i true = true) :
    Region.ready .any ops l = [] := by
  cases hr : Region.ready .any ops l with
  | nil => rfl
  | cons i r =>
    have : i ∈ Region.ready .any ops l := by rw [hr]; exact List.mem_cons_self ..
    obtain ⟨h1, h2, _⟩ := (mem_rdy hsz hac).1 this
    rw [h i h1] at h2; cases h2

theorem msk_bit (ms : List Nat) (j : Nat) : ∀ (l : List Nat), Nat.testBit (mskOf ms l) j = true → ∃ e ∈ l, j = e ∨ Nat.testBit (ms.getD e 0) j = true
  | [], h => by simp [mskOf] at h
  | e :: r, h => by
    have h' : Nat.testBit ((2 ^ e ||| ms.getD e 0) ||| mskOf ms r) j = true := h
    rw [Nat.testBit_or, Nat.testBit_or, Bool.or_eq_true, Bool.or_eq_true] at h'
    rcases h' with (h' | h') | h'
    · rw [Nat.testBit_two_pow] at h'
      exact ⟨e, List.mem_cons_self .., .inl (of_decide_eq_true h').symm⟩
    · exact ⟨e, List.mem_cons_self .., .inr h'⟩
    · obtain ⟨e', he', hh⟩ := msk_bit ms j r h'
      exact ⟨e', List.mem_cons_of_mem _ he', hh⟩

theorem msk_listed {l : Array Bool} (hm : chkM ops ms = true) (hcl : ∀ i, i < ops.size → l.getD i true = true → ∀ e ∈ preOf ops i, l.getD e true = true) (hac : ∀ i, i < ops.size → ∀ e ∈ preOf ops i, e < i) :
    ∀ (i : Nat), i < ops.size → (∀ e ∈ preOf ops i, l.getD e true = true) → ∀ j, Nat.testBit (ms.getD i 0) j = true → l.getD j true = true := by
  intro i
  induction i using Nat.strongRecOn with
  | _ i ih =>
    intro hi hp j hj
    simp only [chkM, List.all_eq_true, List.mem_range] at hm
    have e := Nat.eq_of_beq_eq_true (hm i hi)
    rw [e] at hj
    obtain ⟨e', he', hh⟩ := msk_bit ms j _ hj
    have hlt := hac i hi e' he'
    rcases hh with rfl | hh
    · exact hp _ he'
    · exact ih e' hlt (by omega) (hcl e' (by omega) (hp e' he')) j hh

structure Inv (P : Program) (ops : Array Oper) (ms cs : List Nat) (w0 : World) (N : (Nat → Value) → World → Prop) (sC : Nat → Value)
    (fuel : Nat) (listed : Array Bool) (s : Nat → Value) (w : World) (f : Nat) (lF : Array Bool) (sF : Nat → Value) : Prop where
  sz : listed.size = ops.size
  szF : lF.size = ops.size
  lF_eq : ∀ i, i < ops.size → lF.getD i true = (listed.getD i true || memB i cs)
  closed : ∀ i, i < ops.size → listed.getD i true = true → ∀ e ∈ preOf ops i, listed.getD e true = true
  slots : ∀ t, (∀ j ∈ cs, listed.getD j true = false → dstOf ops j ≠ some t) → s t = sF t
  fresh : ∀ t, (∀ i, i < ops.size → i ∉ cs → dstOf ops i ≠ some t) → sF t = sC t
  below : (∃ j ∈ cs, listed.getD j true = false ∧ stiffAt ops j = false) → Below w0.heap.size w0 w
  run : dF P ops (lastB ms (hard ops cs)) w0 N f lF sF w
  count : cnt listed ops.size ≤ fuel

theorem Inv.done {sC : Nat → Value} {fuel : Nat} {listed : Array Bool} {s : Nat → Value} {w : World} {f : Nat} {lF : Array Bool} {sF : Nat → Value}
    (hc : Chk ops cs) (I : Inv P ops ms cs w0 N sC fuel listed s w f lF sF) (hall : ∀ i, i < ops.size → listed.getD i true = true) : N s w := by
  have e : s = sF := by
    funext t
    exact I.slots t (fun j hj hf => by rw [hall j (hc.lt j hj)] at hf; cases hf)
  have hr : Region.ready .any ops lF = [] := rdy_all I.szF hc.acyc (fun i hi => by rw [I.lF_eq i hi, hall i hi, Bool.true_or])
  have hrun := I.run
  cases f with
  | zero => simp only [dF, hr] at hrun; rw [e]; exact hrun
  | succ f => simp only [dF, hr] at hrun; rw [e]; exact hrun

theorem mix_main (hc : Chk ops cs) (hms : chkM ops ms = true) {sC : Nat → Value}
    (hD : ∀ j ∈ cs, ∀ o, ops[j]? = some o → ∃ cv, (∀ d, o.dst = some d → sC d = cv) ∧
        ∀ s', (∀ t ∈ rd ops o, s' t = sC t) → ∀ w, stiff o = true ∨ Below w0.heap.size w0 w → dog P ops s' o (fun v w' => v = cv ∧ w' = w) w) :
    ∀ (fuel : Nat) (listed : Array Bool) (s : Nat → Value) (w : World) (f : Nat) (lF : Array Bool) (sF : Nat → Value),
      Inv P ops ms cs w0 N sC fuel listed s w f lF sF → dAny P ops N fuel listed s w := by
  intro fuel
  induction fuel with
  | zero =>
    intro listed s w f lF sF I
    have hall := cnt_zero listed ops.size (Nat.le_zero.1 I.count)
    exact ⟨rdy_all I.sz hc.acyc hall, I.done hc hall⟩
  | succ fuel ih =>
    intro listed s w f lF sF I
    refine ⟨fun h0 => I.done hc (rdy_nil I.sz hc.acyc h0), fun i hi o ho => ?_⟩
    obtain ⟨hin, hfi, hpre⟩ := (mem_rdy I.sz hc.acyc).1 hi
    have hdi : dstOf ops i = o.dst := by simp [dstOf, ho]
    have hri : rdOf ops i = rd ops o := by simp [rdOf, ho]
    have hcount : cnt (listed.setIfInBounds i true) ops.size ≤ fuel := by
      have := cnt_set listed i hfi ops.size
      have e : Nat.blt i ops.size = true := by rw [Nat.blt_eq]; exact hin
      rw [e] at this
      have := I.count
      simp at *
      omega
    have hset : ∀ k, (listed.setIfInBounds i true).getD k true = false → k ≠ i ∧ listed.getD k true = false := by
      intro k hk
      rw [getD_set, Bool.or_eq_false_iff] at hk
      exact ⟨fun e => by subst e; simp at hk, hk.2⟩
    have hset' : ∀ k, listed.getD k true = true → (listed.setIfInBounds i true).getD k true = true := by
      intro k hk; rw [getD_set, hk, Bool.or_true]
    have hclosed : ∀ k, k < ops.size → (listed.setIfInBounds i true).getD k true = true → ∀ e ∈ preOf ops k, (listed.setIfInBounds i true).getD e true = true := by
      intro k hk hl e he
      rw [getD_set, Bool.or_eq_true] at hl
      rcases hl with h | h
      · have := Nat.eq_of_beq_eq_true h; subst this; exact hset' e (hpre e he)
      · exact hset' e (I.closed k hk h e he)
    -- what is read now reads as in sF
    have hread : ∀ t ∈ rd ops o, s t = sF t := by
      intro t ht
      refine I.slots t (fun j hj hf hd => ?_)
      have := hpre j (hc.rdw i hin j hj t hd (by rw [hri]; exact ht))
      rw [hf] at this; cases this
    by_cases hcs : i ∈ cs
    · -- a still one
      obtain ⟨cv, hcv, hD'⟩ := hD i hcs o ho
      have hbel : stiff o = true ∨ Below w0.heap.size w0 w := by
        cases hst : stiff o with
        | true => exact .inl rfl
        | false => exact .inr (I.below ⟨i, hcs, hfi, by simp [stiffAt, ho, hst]⟩)
      have hreadC : ∀ t ∈ rd ops o, s t = sC t := by
        intro t ht
        rw [hread t ht]
        refine I.fresh t (fun k hk hn hd => ?_)
        exact hc.fr k hk i hcs hn t hd (by rw [hri]; exact ht)
      refine dog_mono ?_ (hD' s hreadC w hbel)
      rintro v w' ⟨rfl, rfl⟩
      refine ih _ _ _ f lF sF ⟨by rw [Array.size_setIfInBounds]; exact I.sz, I.szF, ?_, hclosed, ?_, I.fresh, ?_, I.run, hcount⟩
      · intro k hk
        rw [getD_set, I.lF_eq k hk]
        cases hki : Nat.beq k i with
        | true => have := Nat.eq_of_beq_eq_true hki; subst this; simp [memB_iff.2 hcs]
        | false => rw [Bool.false_or]
      · intro t ht
        by_cases hd : o.dst = some t
        · rw [hd, putE_same, ← hcv t hd]
          refine (I.fresh t (fun k hk hn hdk => ?_)).symm
          exact hc.dst k hk i hcs (fun e => hn (e ▸ hcs)) t (by rw [hdi, hd]) hdk
        · rw [putE_ne hd]
          refine I.slots t (fun j hj hf hdj => ?_)
          by_cases hji : j = i
          · subst hji; rw [hdi] at hdj; exact hd hdj
          · refine ht j hj ?_ hdj
            rw [getD_set, hf]
            have : Nat.beq j i = false := by rw [← Bool.not_eq_true, Nat.beq_eq]; exact hji
            rw [this]; rfl
      · rintro ⟨j, hj, hf, hst⟩; exact I.below ⟨j, hj, (hset j hf).2, hst⟩
    · -- another
      have hlFi : lF.getD i true = false := by
        rw [I.lF_eq i hin, hfi, Bool.false_or]
        cases h : memB i cs with
        | true => exact absurd (memB_iff.1 h) hcs
        | false => rfl
      have hiF : i ∈ Region.ready .any ops lF := (mem_rdy I.szF hc.acyc).2 ⟨hin, hlFi, fun e he => by
        have := hc.acyc i hin e he
        rw [I.lF_eq e (by omega), hpre e he, Bool.true_or]⟩
      have hrun := I.run
      cases f with
      | zero =>
        simp only [dF] at hrun
        split at hrun
        · rename_i hr; rw [hr] at hiF; cases hiF
        · exact hrun.elim
      | succ f =>
        simp only [dF] at hrun
        split at hrun
        · rename_i hr; rw [hr] at hiF; cases hiF
        · rename_i a r hr
          rw [hr] at hiF
          have h1 := allL_mem hrun i hiF
          rw [ho] at h1
          simp only at h1
          rw [← dog_congr (s := s) hread] at h1
          refine dog_mono ?_ h1
          intro v w' hsd
          have hQ : dF P ops (lastB ms (hard ops cs)) w0 N f (lF.setIfInBounds i true) (putE sF o.dst v) w' := by
            unfold sd at hsd
            cases hl : lastB ms (hard ops cs) i with
            | true => rw [hl] at hsd; exact hsd
            | false => rw [hl] at hsd; exact hsd.2
          have hB : (∃ j ∈ cs, (listed.setIfInBounds i true).getD j true = false ∧ stiffAt ops j = false) → Below w0.heap.size w0 w' := by
            rintro ⟨j, hj, hf, hst⟩
            unfold sd at hsd
            cases hl : lastB ms (hard ops cs) i with
            | true =>
              exfalso
              simp only [lastB, List.all_eq_true] at hl
              have := msk_listed hms I.closed hc.acyc i hin hpre j (hl j (by simp [hard, hj, hst]))
              rw [(hset j hf).2] at this; cases this
            | false => rw [hl] at hsd; exact hsd.1
          refine ih _ _ _ f _ _ ⟨by rw [Array.size_setIfInBounds]; exact I.sz, by rw [Array.size_setIfInBounds]; exact I.szF, ?_, hclosed, ?_, ?_, hB, hQ, hcount⟩
          · intro k hk
            rw [getD_set, getD_set, I.lF_eq k hk, Bool.or_assoc]
          · intro t ht
            by_cases hd : o.dst = some t
            · rw [hd, putE_same, putE_same]
            · rw [putE_ne hd, putE_ne hd]
              refine I.slots t (fun j hj hf hdj => ?_)
              refine ht j hj ?_ hdj
              have hji : j ≠ i := fun e => hcs (e ▸ hj)
              rw [getD_set, hf]
              have : Nat.beq j i = false := by rw [← Bool.not_eq_true, Nat.beq_eq]; exact hji
              rw [this]; rfl
          · intro t ht
            have hd : o.dst ≠ some t := by rw [← hdi]; exact ht i hin hcs
            rw [putE_ne hd]
            exact I.fresh t ht

theorem mrk_getD (n : Nat) (cs : List Nat) (i : Nat) (hi : i < n) : (mrk n cs).getD i true = memB i cs := by
  simp [mrk, Array.getD_eq_getD_getElem?, hi]

theorem cnt_le (l : Array Bool) : ∀ k, cnt l k ≤ k
  | 0 => Nat.le_refl _
  | k + 1 => by
    have := cnt_le l k
    simp only [cnt]
    cases l.getD k true <;> simp <;> omega

/-- ████ A REGION THAT DRAWS ITS ORDER ████ -/
theorem dAny_mix {s : Nat → Value} {w : World} (hchk : chk ops cs = true) (hms : chkM ops ms = true)
    (h : dC P ops w cs (fun s' => dF P ops (lastB ms (hard ops cs)) w N ops.size (mrk ops.size cs) s' w) s) :
    dAny P ops N ops.size (Array.replicate ops.size false) s w := by
  have hc := chk_spec hchk
  obtain ⟨sC, h1, h2, h3⟩ := dC_spec hc cs _ s (fun j hj => hj) hc.sorted h
  have hrep : ∀ i, i < ops.size → (Array.replicate ops.size false).getD i true = false := fun i hi => by
    simp [Array.getD_eq_getD_getElem?, hi]
  refine mix_main hc hms h3 ops.size _ s w ops.size (mrk ops.size cs) sC ⟨by simp, by simp [mrk], ?_, ?_, ?_, fun _ _ => rfl, fun _ => Below.refl _ _, h1, cnt_le _ _⟩
  · intro i hi; rw [mrk_getD _ _ _ hi, hrep i hi, Bool.false_or]
  · intro i hi hl; rw [hrep i hi] at hl; cases hl
  · intro t ht
    refine (h2 t (fun j hj => ?_)).symm
    exact ht j hj (hrep j (hc.lt j hj))
end

end Go.Sh
