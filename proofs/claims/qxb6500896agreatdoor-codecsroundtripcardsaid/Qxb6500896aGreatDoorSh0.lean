/-
  The operations, as plain propositions on values and worlds ('nice' forms), and that each implies the model's own run.
  Own work; no program named here.
-/
import Derived.WalkKit
import Derived.Orders
import Derived.Deep.LoopGhost
namespace Go.Sh
open Go.RowKit
set_option linter.unusedVariables false
set_option linter.unusedSimpArgs false

/-- a computation that must end well -/
structure rs (P : Program) (x : Sem Value) (K : Value → World → Prop) (w : World) : Prop where
  go : match x.run P w with
  | .ok v w' => K v w'
  | .halt _ _ => False

structure ru (P : Program) (x : Sem Unit) (K : World → Prop) (w : World) : Prop where
  go : match x.run P w with
  | .ok _ w' => K w'
  | .halt _ _ => False

/-- a call of a function of the program that must return -/
def cl (P : Program) (f : FuncId) (args : Array Value) (K : Value → World → Prop) (w : World) : Prop :=
  Calls P f args w fun e w' => ∃ v, e = .returned v ∧ K v w'

theorem rs_ok {P : Program} {x : Sem Value} {K : Value → World → Prop} {w w' : World} {v : Value} (h : x.run P w = .ok v w') (hk : K v w') : rs P x K w := by
  refine ⟨?_⟩; rw [h]; exact hk
theorem ru_ok {P : Program} {x : Sem Unit} {K : World → Prop} {w w' : World} {v : Unit} (h : x.run P w = .ok v w') (hk : K w') : ru P x K w := by
  refine ⟨?_⟩; rw [h]; exact hk

/-! ### types -/
def tyK (P : Program) (t : TypeId) : Option (Option Nat) :=
  match P.underlying t with
  | none => none
  | some (.struct _) => (P.info? t).map fun i => some i.size
  | some (.array _ _) => (P.info? t).map fun i => some i.size
  | some _ => some none

def scal : Value → Bool
  | .agg _ => false
  | .tuple _ => false
  | _ => true

section
variable {P : Program} {w : World} {t : TypeId}

theorem run_underlying {d : TypeDesc} (h : P.underlying t = some d) : (underlying t).run P w = .ok d w := by
  simp [underlying, program, Sem.run, h]
theorem run_typeInfo {i : TypeInfo} (h : P.info? t = some i) : (typeInfo t).run P w = .ok i w := by
  simp [typeInfo, program, Sem.run, h]
theorem run_sizeOf {i : TypeInfo} (h : P.info? t = some i) : (sizeOf t).run P w = .ok i.size w := by
  simp [sizeOf, run_typeInfo h]
theorem run_isAgg_none (h : tyK P t = some none) : (isAgg t).run P w = .ok false w := by
  unfold tyK at h
  cases hu : P.underlying t with
  | none => simp [hu] at h
  | some d =>
    rw [hu] at h
    cases d <;> simp [isAgg, run_underlying hu] at h ⊢ <;> first | rfl | (obtain ⟨_, _, h⟩ := h; cases h)
theorem run_isAgg_some {n : Nat} (h : tyK P t = some (some n)) : (isAgg t).run P w = .ok true w ∧ (sizeOf t).run P w = .ok n w := by
  unfold tyK at h
  cases hu : P.underlying t with
  | none => simp [hu] at h
  | some d =>
    rw [hu] at h
    cases d <;> simp at h
    all_goals
      obtain ⟨i, hi, rfl⟩ := h
      refine ⟨?_, run_sizeOf hi⟩
      simp [isAgg, run_underlying hu]
end

/-! ### reading -/
def ldc (a : Addr) (w : World) : (i n : Nat) → (List Value → Prop) → Prop
  | _, 0, k => k []
  | i, n + 1, k => ∃ v, w.cell? (a.add i) = some v ∧ ldc a w (i + 1) n fun vs => k (v :: vs)

theorem ldc_run {P : Program} {a : Addr} {w : World} : ∀ (n i : Nat) (k : List Value → Prop) (acc : Array Value), ldc a w i n k →
    ∃ vs, (loadCellsFrom a i n acc).run P w = .ok (acc ++ vs.toArray) w ∧ k vs
  | 0, i, k, acc, h => ⟨[], by simp [loadCellsFrom, pure, Sem.run], h⟩
  | n + 1, i, k, acc, ⟨v, hv, h⟩ => by
    obtain ⟨vs, h1, h2⟩ := ldc_run (P := P) n (i + 1) _ (acc.push v) h
    refine ⟨v :: vs, ?_, h2⟩
    have : (load (a.add i)).run P w = .ok v w := by simp [load, Sem.run, hv]
    have e : acc.push v ++ vs.toArray = acc ++ (v :: vs).toArray := by apply Array.ext'; simp
    simp only [loadCellsFrom, Sem.run_bind, this, Result.andThen_ok, h1, e]

def ld1 (a : Value) (K : Value → World → Prop) (w : World) : Prop :=
  match a with
  | .pointer (some ad) => ∃ v, w.cell? ad = some v ∧ K v w
  | _ => False
structure ldn (n : Nat) (a : Value) (K : Value → World → Prop) (w : World) : Prop where
  go : match a with
  | .pointer (some ad) => ldc ad w 0 n fun vs => K (.agg vs.toArray) w
  | _ => False
def ld (P : Program) (t : TypeId) (a : Value) (K : Value → World → Prop) (w : World) : Prop :=
  match tyK P t with
  | none => False
  | some none => ld1 a K w
  | some (some n) => ldn n a K w

theorem loadVar_of {P : Program} {t : TypeId} {ad : Addr} {K : Value → World → Prop} {w : World} (h : ld P t (.pointer (some ad)) K w) :
    ∃ v, (loadVar t ad).run P w = .ok v w ∧ K v w := by
  unfold ld at h
  cases hk : tyK P t with
  | none => rw [hk] at h; exact h.elim
  | some o =>
    rw [hk] at h
    cases o with
    | none =>
      obtain ⟨v, hv, hK⟩ := h
      refine ⟨v, ?_, hK⟩
      have : (load ad).run P w = .ok v w := by simp [load, Sem.run, hv]
      simp only [loadVar, Sem.run_bind, run_isAgg_none hk, Result.andThen_ok, Bool.false_eq_true, if_false]
      exact this
    | some n =>
      obtain ⟨vs, h1, h2⟩ := ldc_run (P := P) n 0 _ #[] h.go
      refine ⟨_, ?_, h2⟩
      obtain ⟨h3, h4⟩ := run_isAgg_some (w := w) hk
      simp [loadVar, h3, h4, loadCells, h1]

theorem ld_ptr {P : Program} {t : TypeId} {a : Value} {K : Value → World → Prop} {w : World} (h : ld P t a K w) : ∃ ad, a = .pointer (some ad) := by
  unfold ld ld1 at h
  split at h
  · exact h.elim
  · split at h
    · exact ⟨_, rfl⟩
    · exact h.elim
  · replace h := h.go
    split at h
    · exact ⟨_, rfl⟩
    · exact h.elim
theorem ld_rs {P : Program} {t : TypeId} {a : Value} {K : Value → World → Prop} {w : World} (h : ld P t a K w) : rs P (Instr.loadAt t a) K w := by
  obtain ⟨ad, rfl⟩ := ld_ptr h
  obtain ⟨v, h1, h2⟩ := loadVar_of h
  refine rs_ok (v := v) (w' := w) ?_ h2
  simp [Instr.loadAt, Instr.sureAddr, pure, Sem.run]
  exact h1

theorem ldc_mono {a : Addr} {w : World} : ∀ {n i : Nat} {k k' : List Value → Prop}, (∀ vs, k vs → k' vs) → ldc a w i n k → ldc a w i n k'
  | 0, _, _, _, h, hh => h _ hh
  | n + 1, _, _, _, h, ⟨v, hv, hh⟩ => ⟨v, hv, ldc_mono (fun vs => h (v :: vs)) hh⟩
theorem ld1_mono {a : Value} {K K' : Value → World → Prop} {w : World} (h : ∀ v w, K v w → K' v w) (hh : ld1 a K w) : ld1 a K' w := by
  cases a with
  | pointer o => cases o with
    | none => exact hh.elim
    | some ad => obtain ⟨v, h1, h2⟩ := hh; exact ⟨v, h1, h _ _ h2⟩
  | _ => exact hh.elim
theorem ldn_mono {n : Nat} {a : Value} {K K' : Value → World → Prop} {w : World} (h : ∀ v w, K v w → K' v w) (hh : ldn n a K w) : ldn n a K' w := by
  cases a with
  | pointer o => cases o with
    | none => exact hh.go.elim
    | some ad => exact ⟨ldc_mono (fun vs => h _ _) hh.go⟩
  | _ => exact hh.go.elim
theorem ld_mono {P : Program} {t : TypeId} {a : Value} {K K' : Value → World → Prop} {w : World} (h : ∀ v w, K v w → K' v w) (hh : ld P t a K w) : ld P t a K' w := by
  unfold ld at *
  cases e : tyK P t with
  | none => rw [e] at hh; exact hh.elim
  | some o =>
    rw [e] at hh
    cases o with
    | none => exact ld1_mono h hh
    | some n => exact ldn_mono h hh

/-! ### writing -/
def stc (a : Addr) : (i : Nat) → List Value → (World → Prop) → World → Prop
  | _, [], k, w => k w
  | i, v :: r, k, w => (w.cell? (a.add i)).isSome = true ∧ w.frozen? (a.add i) = false ∧ scal v = true ∧ stc a (i + 1) r k (w.setCell (a.add i) v)

def st1 (a x : Value) (K : World → Prop) (w : World) : Prop :=
  match a with
  | .pointer (some ad) => (w.cell? ad).isSome = true ∧ w.frozen? ad = false ∧ scal x = true ∧ K (w.setCell ad x)
  | _ => False
structure stn (n : Nat) (a x : Value) (K : World → Prop) (w : World) : Prop where
  go : match a, x with
  | .pointer (some ad), .agg cs => cs.size = n ∧ stc ad 0 cs.toList K w
  | _, _ => False
def st (P : Program) (t : TypeId) (a x : Value) (K : World → Prop) (w : World) : Prop :=
  match tyK P t with
  | none => False
  | some none => match P.info? t with
    | some i => bif Nat.beq i.size 1 then st1 a x K w else False
    | none => False
  | some (some n) => stn n a x K w

theorem run_store {P : Program} {a : Addr} {v : Value} {w : World} (h1 : (w.cell? a).isSome = true) (h2 : w.frozen? a = false) (h3 : scal v = true) :
    (store a v).run P w = .ok () (w.setCell a v) := by
  obtain ⟨u, hu⟩ := Option.isSome_iff_exists.1 h1
  cases v <;> simp [store, Sem.run, hu, h2, scal] at h3 ⊢

theorem stc_run {P : Program} {a : Addr} : ∀ (vs : List Value) (i : Nat) (k : World → Prop) (w : World), stc a i vs k w →
    ∃ w', (storeCells a vs i).run P w = .ok () w' ∧ k w'
  | [], i, k, w, h => ⟨w, by simp [storeCells, pure, Sem.run], h⟩
  | v :: r, i, k, w, ⟨h1, h2, h3, h⟩ => by
    obtain ⟨w', h4, h5⟩ := stc_run (P := P) r (i + 1) k _ h
    refine ⟨w', ?_, h5⟩
    simp only [storeCells, Sem.run_bind, run_store h1 h2 h3, Result.andThen_ok, h4]

theorem scal_cells {v : Value} (h : scal v = true) : v.cells = #[v] := by cases v <;> simp [scal, Value.cells] at h ⊢

theorem add_zero' (a : Addr) : a.add 0 = a := by simp [Addr.add]

theorem st_ru {P : Program} {t : TypeId} {a x : Value} {K : World → Prop} {w : World} (h : st P t a x K w) : ru P (Instr.storeAt t a x) K w := by
  unfold st at h
  split at h
  · exact h.elim
  · rename_i hk
    cases hi : P.info? t with
    | none => rw [hi] at h; exact h.elim
    | some i => ?_
    rw [hi] at h
    simp only at h
    cases hsz' : Nat.beq i.size 1 with
    | false => rw [hsz'] at h; exact h.elim
    | true => ?_
    rw [hsz'] at h
    have hsz : i.size = 1 := Nat.eq_of_beq_eq_true hsz'
    simp only [cond_true] at h
    unfold st1 at h
    split at h
    · rename_i ad
      obtain ⟨h1, h2, h3, hK⟩ := h
      refine ru_ok (v := ()) (w' := w.setCell ad x) ?_ hK
      have hs : (storeCells ad [x]).run P w = .ok () (w.setCell ad x) := by
        simp only [storeCells, Sem.run_bind, add_zero', run_store h1 h2 h3, Result.andThen_ok]
        rfl
      have hc := scal_cells h3
      simp [Instr.storeAt, Instr.sureAddr, storeVar, hc, run_sizeOf hi, hsz, pure, Sem.run]
      exact hs
    · exact h.elim
  · rename_i n hk
    replace h := h.go
    split at h
    · rename_i ad cs
      obtain ⟨hn, h⟩ := h
      obtain ⟨w', h1, h2⟩ := stc_run (P := P) _ 0 _ _ h
      refine ru_ok (v := ()) (w' := w') ?_ h2
      obtain ⟨_, h4⟩ := run_isAgg_some (w := w) hk
      simp [Instr.storeAt, Instr.sureAddr, storeVar, Value.cells, h4, hn, pure, Sem.run]
      exact h1
    · exact h.elim

theorem stc_mono {a : Addr} {k k' : World → Prop} (h : ∀ w, k w → k' w) : ∀ (vs : List Value) (i : Nat) (w : World), stc a i vs k w → stc a i vs k' w
  | [], _, w, hh => h w hh
  | v :: r, i, w, ⟨h1, h2, h3, hh⟩ => ⟨h1, h2, h3, stc_mono h r _ _ hh⟩
theorem st1_mono {a x : Value} {K K' : World → Prop} {w : World} (h : ∀ w, K w → K' w) (hh : st1 a x K w) : st1 a x K' w := by
  cases a with
  | pointer o => cases o with
    | none => exact hh.elim
    | some ad => exact ⟨hh.1, hh.2.1, hh.2.2.1, h _ hh.2.2.2⟩
  | _ => exact hh.elim
theorem stn_mono {n : Nat} {a x : Value} {K K' : World → Prop} {w : World} (h : ∀ w, K w → K' w) (hh : stn n a x K w) : stn n a x K' w := by
  cases a with
  | pointer o => cases o with
    | none => exact hh.go.elim
    | some ad => cases x with
      | agg cs => exact ⟨hh.go.1, stc_mono h _ _ _ hh.go.2⟩
      | _ => exact hh.go.elim
  | _ => exact hh.go.elim
theorem st_mono {P : Program} {t : TypeId} {a x : Value} {K K' : World → Prop} {w : World} (h : ∀ w, K w → K' w) (hh : st P t a x K w) : st P t a x K' w := by
  unfold st at *
  cases e : tyK P t with
  | none => rw [e] at hh; exact hh.elim
  | some o =>
    rw [e] at hh
    cases o with
    | none =>
      simp only at *
      cases e2 : P.info? t with
      | none => rw [e2] at hh; exact hh.elim
      | some i =>
        rw [e2] at hh
        simp only at *
        cases e3 : Nat.beq i.size 1 with
        | false => rw [e3] at hh; exact hh.elim
        | true => rw [e3] at hh; exact st1_mono h hh
    | some n => exact stn_mono h hh

/-! ### a field's address, an element's address -/
def foff (P : Program) (t : TypeId) (f : Nat) : Option Nat :=
  match P.underlying t with
  | some (.struct fs) => match fs[f]? with
    | some fd => match P.info? fd.type with
      | some i => bif Nat.beq i.size 0 then none else some fd.offset
      | none => none
    | none => none
  | _ => none
def fd (off : Nat) (x : Value) (K : Value → World → Prop) (w : World) : Prop :=
  match x with
  | .pointer (some a) => K (.pointer (some (a.add off))) w
  | _ => False
def fa (P : Program) (t : TypeId) (x : Value) (f : Nat) (K : Value → World → Prop) (w : World) : Prop :=
  match foff P t f with
  | some off => fd off x K w
  | none => False

theorem fa_rs {P : Program} {t : TypeId} {x : Value} {f : Nat} {K : Value → World → Prop} {w : World} (h : fa P t x f K w) : rs P (Instr.fieldAt t x f) K w := by
  unfold fa at h
  split at h
  · rename_i off hf
    unfold fd at h
    split at h
    · rename_i a
      unfold foff at hf
      split at hf
      · rename_i fs hu
        split at hf
        · rename_i g hg
          split at hf
          · rename_i i hi
            cases hz : Nat.beq i.size 0 with
            | true => rw [hz] at hf; cases hf
            | false =>
              rw [hz] at hf
              simp at hf
              subst hf
              have hz' : ¬ i.size = 0 := by intro e; rw [e] at hz; simp at hz
              refine rs_ok (v := _) (w' := w) ?_ h
              simp [Instr.fieldAt, run_underlying hu, hg, Instr.sureAddr, fieldPlace, run_sizeOf hi, hz', pure, Sem.run]
          · cases hf
        · cases hf
      · cases hf
    · exact h.elim
  · exact h.elim
theorem fd_mono {off : Nat} {x : Value} {K K' : Value → World → Prop} {w : World} (h : ∀ v w, K v w → K' v w) (hh : fd off x K w) : fd off x K' w := by
  cases x with
  | pointer o => cases o with
    | none => exact hh.elim
    | some ad => exact h _ _ hh
  | _ => exact hh.elim
theorem fa_mono {P : Program} {t : TypeId} {x : Value} {f : Nat} {K K' : Value → World → Prop} {w : World} (h : ∀ v w, K v w → K' v w) (hh : fa P t x f K w) : fa P t x f K' w := by
  unfold fa at *
  cases e : foff P t f with
  | none => rw [e] at hh; exact hh.elim
  | some off => rw [e] at hh; exact fd_mono h hh

def ixs (size : Nat) (x i : Value) (K : Value → World → Prop) (w : World) : Prop :=
  match x, i with
  | .slice (some a) len _, .int _ n => (0 ≤ n ∧ n < len) ∧ K (.pointer (some (a.add (n.toNat * size)))) w
  | _, _ => False
def ixa (len size : Nat) (x i : Value) (K : Value → World → Prop) (w : World) : Prop :=
  match x, i with
  | .pointer (some a), .int _ n => (0 ≤ n ∧ n < len) ∧ K (.pointer (some (a.add (n.toNat * size)))) w
  | _, _ => False
def ix (P : Program) (t : TypeId) (x i : Value) (K : Value → World → Prop) (w : World) : Prop :=
  match P.underlying t with
  | some (.slice e) => match P.info? e with
    | some f => ixs f.size x i K w
    | none => False
  | some (.array n e) => match P.info? e with
    | some f => ixa n f.size x i K w
    | none => False
  | _ => False

theorem ix_rs {P : Program} {t : TypeId} {x i : Value} {K : Value → World → Prop} {w : World} (h : ix P t x i K w) : rs P (Instr.indexAt t x i) K w := by
  unfold ix at h
  split at h
  · rename_i e hu
    split at h
    · rename_i f hf
      unfold ixs at h
      split at h
      · rename_i a len cap k n
        obtain ⟨hr, hK⟩ := h
        refine rs_ok (v := _) (w' := w) ?_ hK
        simp [Instr.indexAt, asIntOf, run_underlying hu, run_sizeOf hf, hr, pure, Sem.run]
      · exact h.elim
    · exact h.elim
  · rename_i len e hu
    split at h
    · rename_i f hf
      unfold ixa at h
      split at h
      · rename_i a k n
        obtain ⟨hr, hK⟩ := h
        refine rs_ok (v := _) (w' := w) ?_ hK
        simp [Instr.indexAt, asIntOf, run_underlying hu, run_sizeOf hf, hr, Instr.sureAddr, pure, Sem.run]
      · exact h.elim
    · exact h.elim
  · exact h.elim
theorem ixs_mono {n : Nat} {x i : Value} {K K' : Value → World → Prop} {w : World} (h : ∀ v w, K v w → K' v w) (hh : ixs n x i K w) : ixs n x i K' w := by
  cases x with
  | slice o len cap => cases o with
    | none => exact hh.elim
    | some a => cases i with
      | int k m => exact ⟨hh.1, h _ _ hh.2⟩
      | _ => exact hh.elim
  | _ => exact hh.elim
theorem ixa_mono {l n : Nat} {x i : Value} {K K' : Value → World → Prop} {w : World} (h : ∀ v w, K v w → K' v w) (hh : ixa l n x i K w) : ixa l n x i K' w := by
  cases x with
  | pointer o => cases o with
    | none => exact hh.elim
    | some a => cases i with
      | int k m => exact ⟨hh.1, h _ _ hh.2⟩
      | _ => exact hh.elim
  | _ => exact hh.elim
theorem ix_mono {P : Program} {t : TypeId} {x i : Value} {K K' : Value → World → Prop} {w : World} (h : ∀ v w, K v w → K' v w) (hh : ix P t x i K w) : ix P t x i K' w := by
  unfold ix at *
  cases e : P.underlying t with
  | none => rw [e] at hh; exact hh.elim
  | some d =>
    rw [e] at hh
    cases d with
    | slice el =>
      simp only at *
      cases e2 : P.info? el with
      | none => rw [e2] at hh; exact hh.elim
      | some f => rw [e2] at hh; exact ixs_mono h hh
    | array n el =>
      simp only at *
      cases e2 : P.info? el with
      | none => rw [e2] at hh; exact hh.elim
      | some f => rw [e2] at hh; exact ixa_mono h hh
    | _ => exact hh.elim

/-! ### new memory -/
structure nw (t : TypeId) (cs : Array Value) (K : Value → World → Prop) (w : World) : Prop where
  go : K (.pointer (some ⟨w.heap.size, 0, none⟩)) (w.alloc (.cells cs t))
theorem run_newVar {P : Program} {t : TypeId} {v : Value} {w : World} : (newVar t v).run P w = .ok ⟨w.heap.size, 0, none⟩ (w.alloc (.cells v.cells t)) := by
  rfl
theorem nw_box {P : Program} {t : TypeId} {v : Value} {K : Value → World → Prop} {w : World} (h : nw t v.cells K w) : rs P (Instr.box t v) K w := by
  refine rs_ok (v := _) (w' := _) ?_ h.go
  simp [Instr.box, run_newVar]
def zeroOf (P : Program) (t : TypeId) : Option (Array Value) := (P.info? t).bind fun i => i.zero.map Value.cells
def al (P : Program) (t : TypeId) (K : Value → World → Prop) (w : World) : Prop :=
  match zeroOf P t with
  | some z => nw t z K w
  | none => False
theorem run_zero {P : Program} {t : TypeId} {i : TypeInfo} {z : Value} {w : World} (hi : P.info? t = some i) (hz : i.zero = some z) : (zeroValue t).run P w = .ok z w := by
  simp [zeroValue, run_typeInfo hi, hz]
theorem al_rs {P : Program} {t : TypeId} {K : Value → World → Prop} {w : World} (h : al P t K w) : rs P (Instr.alloc t true (.tuple #[])) K w := by
  unfold al at h
  split at h
  · rename_i z hz
    unfold zeroOf at hz
    obtain ⟨i, hi, hz⟩ := Option.bind_eq_some_iff.1 hz
    obtain ⟨v, hv, rfl⟩ := Option.map_eq_some_iff.1 hz
    refine rs_ok (v := _) (w' := _) ?_ h.go
    simp [Instr.alloc, run_zero hi hv, run_newVar]
  · exact h.elim
theorem al_mono {P : Program} {t : TypeId} {K K' : Value → World → Prop} {w : World} (h : ∀ v w, K v w → K' v w) (hh : al P t K w) : al P t K' w := by
  unfold al at *
  cases e : zeroOf P t with
  | none => rw [e] at hh; exact hh.elim
  | some z => rw [e] at hh; exact ⟨h _ _ hh.go⟩

end Go.Sh
