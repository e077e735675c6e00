/-
  The operations, second half: building, making, cutting, arithmetic, tests.
-/
import Derived.Test.Qxb6500896aGreatDoorSh0
namespace Go.Sh
open Go.RowKit
set_option linter.unusedVariables false
set_option linter.unusedSimpArgs false

/-- a value that may not be there -/
def pv (o : Option Value) (K : Value → World → Prop) (w : World) : Prop :=
  match o with
  | some v => K v w
  | none => False
theorem pv_mono {o : Option Value} {K K' : Value → World → Prop} {w : World} (h : ∀ v w, K v w → K' v w) (hh : pv o K w) : pv o K' w := by
  cases o with
  | none => exact hh.elim
  | some v => exact h _ _ hh

/-! ### building a struct, an array, a literal slice -/
def fillL : List Value → List (Option (Nat × Nat) × Value) → Option (List Value)
  | z, [] => some z
  | z, (none, _) :: _ => none
  | z, (some (off, size), v) :: r =>
    bif Nat.beq v.cells.toList.length size && Nat.ble (off + size) z.length then fillL (z.take off ++ (v.cells.toList ++ z.drop (off + size))) r else none

theorem fold_set (off : Nat) : ∀ (vs : List Value) (k : Nat) (l : List Value), off + k + vs.length ≤ l.length →
    ((vs.zipIdx k).foldl (fun (cs : Array Value) (p : Value × Nat) => cs.setIfInBounds (off + p.2) p.1) l.toArray).toList = l.take (off + k) ++ (vs ++ l.drop (off + k + vs.length))
  | [], k, l, h => by simp
  | v :: vs, k, l, h => by
    simp only [List.length_cons] at h
    simp only [List.zipIdx_cons, List.foldl_cons, List.setIfInBounds_toArray]
    rw [fold_set off vs (k + 1) (l.set (off + k) v) (by simp; omega)]
    have e1 : List.take (off + (k + 1)) (l.set (off + k) v) = List.take (off + k) l ++ [v] := by
      rw [show off + (k + 1) = (off + k) + 1 by omega, List.take_succ_eq_append_getElem (by simp; omega)]
      simp [List.take_set_of_le]
    have e2 : List.drop (off + (k + 1) + vs.length) (l.set (off + k) v) = List.drop (off + k + (v :: vs).length) l := by
      rw [List.drop_set_of_lt (by omega)]
      congr 1
      simp; omega
    rw [e1, e2]
    simp

theorem fill_of (place : Nat → Option (Nat × Nat)) : ∀ (ps : List (Nat × Value)) (z : List Value) (out : List Value),
    fillL z (ps.map fun p => (place p.1, p.2)) = some out → Instr.fill place z.toArray ps = some out.toArray
  | [], z, out, h => by simp [fillL] at h; subst h; rfl
  | (i, v) :: r, z, out, h => by
    simp only [List.map_cons] at h
    cases hp : place i with
    | none => rw [hp] at h; simp [fillL] at h
    | some q =>
      obtain ⟨off, size⟩ := q
      rw [hp] at h
      simp only [fillL] at h
      cases hc : (Nat.beq v.cells.toList.length size && Nat.ble (off + size) z.length) with
      | false => rw [hc] at h; cases h
      | true =>
        rw [hc] at h
        simp only [Bool.and_eq_true] at hc
        have h1 : v.cells.size = size := by have := Nat.eq_of_beq_eq_true hc.1; simpa using this
        have h2 : off + size ≤ z.length := Nat.le_of_ble_eq_true hc.2
        have ih := fill_of place r _ out h
        have hf := fold_set off v.cells.toList 0 z (by simp [h1]; exact h2)
        simp only [Instr.fill, hp]
        rw [if_neg (by simp [h1]; omega)]
        rw [← ih]
        congr 1
        apply Array.ext'
        rw [← Array.foldl_toList, Array.toList_zipIdx]
        simp only [Nat.add_zero] at hf
        rw [hf]
        simp [h1]

structure bdq (z : List Value) (ps : List (Option (Nat × Nat) × Value)) (K : Value → World → Prop) (w : World) : Prop where
  go : match fillL z ps with
  | some l => K (.agg l.toArray) w
  | none => False

def plc (P : Program) (t : TypeId) : Option (Nat → Option (Nat × Nat)) :=
  match P.underlying t with
  | some (.struct fs) => (fs.toList.mapM fun f => (P.info? f.type).map fun i => (f.offset, i.size)).map fun l => fun i => l[i]?
  | some (.array _ e) => (P.info? e).map fun i => fun k => some (k * i.size, i.size)
  | _ => none

def bd (P : Program) (t : TypeId) (ps : List (Nat × Value)) (K : Value → World → Prop) (w : World) : Prop :=
  match zeroOf P t, plc P t with
  | some z, some pl => bdq z.toList (ps.map fun p => (pl p.1, p.2)) K w
  | _, _ => False

theorem mapM_places {P : Program} {w : World} : ∀ (fs : List Field) (l : List (Nat × Nat)), (fs.mapM fun f => (P.info? f.type).map fun i => (f.offset, i.size)) = some l →
    (fs.mapM fun f => (do pure (f.offset, ← sizeOf f.type) : Sem (Nat × Nat))).run P w = .ok l w
  | [], l, h => by simp at h; subst h; simp [pure, Sem.run]
  | f :: r, l, h => by
    simp only [List.mapM_cons, Option.bind_eq_bind, Option.bind_eq_some_iff] at h
    obtain ⟨a, ha, rest, hr, hl⟩ := h
    obtain ⟨i, hi, rfl⟩ := Option.map_eq_some_iff.1 ha
    have := mapM_places (w := w) r rest hr
    simp only [List.mapM_cons, Sem.run_bind, run_sizeOf hi, Result.andThen_ok]
    have e : (pure (f.offset, i.size) : Sem (Nat × Nat)).run P w = .ok (f.offset, i.size) w := rfl
    rw [e, Result.andThen_ok, this, Result.andThen_ok]
    cases hl
    rfl

theorem bd_rs {P : Program} {t : TypeId} {ps : List (Nat × Value)} {K : Value → World → Prop} {w : World} (h : bd P t ps K w) : rs P (Instr.build t ps.toArray) K w := by
  unfold bd at h
  split at h
  · rename_i z pl hz hpl
    replace h := h.go
    split at h
    · rename_i l hl
      unfold zeroOf at hz
      obtain ⟨i, hi, hz⟩ := Option.bind_eq_some_iff.1 hz
      obtain ⟨zv, hzv, rfl⟩ := Option.map_eq_some_iff.1 hz
      have hfill := fill_of pl ps _ l hl
      refine rs_ok (v := _) (w' := w) ?_ h
      unfold plc at hpl
      split at hpl
      · rename_i fs hu
        obtain ⟨q, hq, rfl⟩ := Option.map_eq_some_iff.1 hpl
        have hm := mapM_places (w := w) fs.toList q hq
        simp only [Instr.build, Sem.run_bind, run_zero hi hzv, Result.andThen_ok, run_underlying hu]
        rw [Array.mapM_eq_mapM_toList, Sem.run_map, hm]
        simp only [Result.andThen_ok]
        have e : (fun x : Nat => (q.toArray)[x]?) = fun x => q[x]? := by funext x; simp
        rw [e, hfill]
        rfl
      · rename_i n e hu
        obtain ⟨q, hq, rfl⟩ := Option.map_eq_some_iff.1 hpl
        simp only [Instr.build, Sem.run_bind, run_zero hi hzv, Result.andThen_ok, run_underlying hu, run_sizeOf hq]
        rw [hfill]
        rfl
      · cases hpl
    · exact h.elim
  · exact h.elim
theorem bdq_mono {z : List Value} {ps : List (Option (Nat × Nat) × Value)} {K K' : Value → World → Prop} {w : World} (h : ∀ v w, K v w → K' v w) (hh : bdq z ps K w) : bdq z ps K' w := by
  replace hh := hh.go; refine ⟨?_⟩
  cases e : fillL z ps with
  | none => rw [e] at hh; exact hh.elim
  | some l => rw [e] at hh; exact h _ _ hh
theorem bd_mono {P : Program} {t : TypeId} {ps : List (Nat × Value)} {K K' : Value → World → Prop} {w : World} (h : ∀ v w, K v w → K' v w) (hh : bd P t ps K w) : bd P t ps K' w := by
  unfold bd at *
  cases e1 : zeroOf P t with
  | none => rw [e1] at hh; exact hh.elim
  | some z =>
    cases e2 : plc P t with
    | none => rw [e1, e2] at hh; exact hh.elim
    | some pl => rw [e1, e2] at hh; exact bdq_mono h hh

/-- zero cells, n of them -/
def zrep (z : List Value) (n : Nat) : List Value := (List.range n).map fun i => z.toArray[i % z.toArray.size]!
theorem zrep_one (v : Value) (n : Nat) : zrep [v] n = List.replicate n v := by
  unfold zrep
  apply List.ext_getElem
  · simp
  · intro i h1 h2
    simp [Nat.mod_one]

structure bsq (e : TypeId) (z : List Value) (n : Nat) (ps : List (Option (Nat × Nat) × Value)) (K : Value → World → Prop) (w : World) : Prop where
  go : match fillL (zrep z (n * z.length)) ps with
  | some l => K (.slice (some ⟨w.heap.size, 0, none⟩) n n) (w.alloc (.cells l.toArray e))
  | none => False
def bs (P : Program) (t : TypeId) (n : Nat) (ps : List (Nat × Value)) (K : Value → World → Prop) (w : World) : Prop :=
  match P.underlying t with
  | some (.slice e) => match P.info? e with
    | some i => match i.zero with
      | some z => bif Nat.beq z.cells.toList.length i.size && Nat.ble (n * i.size) 65536 then bsq e z.cells.toList n (ps.map fun p => (some (p.1 * i.size, i.size), p.2)) K w else False
      | none => False
    | none => False
  | _ => False
theorem run_newRow {P : Program} {t : TypeId} {cs : Array Value} {w : World} : (newRow t cs).run P w = .ok ⟨w.heap.size, 0, none⟩ (w.alloc (.cells cs t)) := rfl
theorem range_map_zero (z : Array Value) (n : Nat) : ((Array.range n).map fun i => z[i % z.size]!) = (zrep z.toList n).toArray := by
  apply Array.ext'
  simp [zrep]
theorem bs_rs {P : Program} {t : TypeId} {n : Nat} {ps : List (Nat × Value)} {K : Value → World → Prop} {w : World} (h : bs P t n ps K w) : rs P (Instr.buildSlice t n ps.toArray) K w := by
  unfold bs at h
  split at h
  · rename_i e hu
    split at h
    · rename_i i hi
      split at h
      · rename_i z hz
        cases hc : (Nat.beq z.cells.toList.length i.size && Nat.ble (n * i.size) 65536) with
        | false => rw [hc] at h; exact h.elim
        | true =>
          rw [hc] at h
          simp only [Bool.and_eq_true] at hc
          have h1 : z.cells.size = i.size := by have := Nat.eq_of_beq_eq_true hc.1; simpa using this
          have h2 : n * i.size ≤ 65536 := Nat.le_of_ble_eq_true hc.2
          simp only [cond_true] at h
          replace h := h.go
          split at h
          · rename_i l hl
            have hfill := fill_of (fun k => some (k * i.size, i.size)) ps _ l hl
            have hlen : z.cells.toList.length = i.size := by simpa using h1
            rw [hlen] at hfill
            refine rs_ok (v := _) (w' := _) ?_ h
            simp only [Instr.buildSlice, Sem.run_bind, run_underlying hu, Result.andThen_ok, run_sizeOf hi]
            rw [if_neg (by omega)]
            by_cases hz0 : n * i.size = 0
            · have e0 : zrep z.cells.toList (n * i.size) = [] := by simp [zrep, hz0]
              rw [e0] at hfill
              simp only [hz0, if_true, pure_bind]
              have e1 : ((Array.range 0).map fun x => (#[] : Array Value)[x % (#[] : Array Value).size]!) = ([] : List Value).toArray := by simp
              rw [e1, hfill]
              rfl
            · simp only [hz0, if_false]
              rw [Sem.run_bind, run_zero hi hz, Result.andThen_ok, Sem.run_bind]
              have e3 : (pure z.cells : Sem (Array Value)).run P w = .ok z.cells w := rfl
              rw [e3, Result.andThen_ok, range_map_zero, hfill]
              rfl
          · exact h.elim
      · exact h.elim
    · exact h.elim
  · exact h.elim
theorem bsq_mono {e : TypeId} {z : List Value} {n : Nat} {ps : List (Option (Nat × Nat) × Value)} {K K' : Value → World → Prop} {w : World} (h : ∀ v w, K v w → K' v w) (hh : bsq e z n ps K w) : bsq e z n ps K' w := by
  replace hh := hh.go; refine ⟨?_⟩
  cases e : fillL (zrep z (n * z.length)) ps with
  | none => rw [e] at hh; exact hh.elim
  | some l => rw [e] at hh; exact h _ _ hh
theorem bs_mono {P : Program} {t : TypeId} {n : Nat} {ps : List (Nat × Value)} {K K' : Value → World → Prop} {w : World} (h : ∀ v w, K v w → K' v w) (hh : bs P t n ps K w) : bs P t n ps K' w := by
  unfold bs at *
  cases e1 : P.underlying t with
  | none => rw [e1] at hh; exact hh.elim
  | some d =>
    rw [e1] at hh
    cases d with
    | slice e =>
      simp only at *
      cases e2 : P.info? e with
      | none => rw [e2] at hh; exact hh.elim
      | some i =>
        rw [e2] at hh
        simp only at *
        cases e3 : i.zero with
        | none => rw [e3] at hh; exact hh.elim
        | some z =>
          rw [e3] at hh
          simp only at *
          cases hc : (Nat.beq z.cells.toList.length i.size && Nat.ble (n * i.size) 65536) with
          | false => rw [hc] at hh; exact hh.elim
          | true => rw [hc] at hh; exact bsq_mono h hh
    | _ => exact hh.elim

/-! ### make([]T, n) -/
def mks (e : TypeId) (z : List Value) (by_ : Nat) (l c : Value) (K : Value → World → Prop) (w : World) : Prop :=
  match l, c with
  | .int _ n, .int _ m => (0 ≤ n ∧ n ≤ m ∧ by_ * m ≤ 281474976710656 ∧ m ≤ 9223372036854775807) ∧
      K (.slice (some ⟨w.heap.size, 0, none⟩) n.toNat m.toNat) (w.alloc (.cells (zrep z (m.toNat * z.length)).toArray e))
  | _, _ => False
def ms (P : Program) (t : TypeId) (l c : Value) (K : Value → World → Prop) (w : World) : Prop :=
  match P.underlying t with
  | some (.slice e) => match P.info? e with
    | some i => match i.zero with
      | some z => bif Nat.beq z.cells.toList.length i.size then mks e z.cells.toList i.bytes l c K w else False
      | none => False
    | none => False
  | _ => False
theorem wrap_id {n : Int} (h0 : 0 ≤ n) (h : n ≤ 9223372036854775807) : IntKind.i64.wrap n = n := by
  have e : (2 ^ IntKind.i64.bits : Int) = 18446744073709551616 := by decide
  have e' : (2 ^ (IntKind.i64.bits - 1) : Int) = 9223372036854775808 := by decide
  unfold IntKind.wrap
  rw [e, e']
  have : n % 18446744073709551616 = n := Int.emod_eq_of_lt h0 (by omega)
  simp only [this]
  rw [if_neg]
  simp [IntKind.signed]; omega
theorem ms_rs {P : Program} {t : TypeId} {l c : Value} {K : Value → World → Prop} {w : World} (h : ms P t l c K w) : rs P (Instr.makeSlice t l c) K w := by
  unfold ms at h
  split at h
  · rename_i e hu
    split at h
    · rename_i i hi
      split at h
      · rename_i z hz
        cases hc : Nat.beq z.cells.toList.length i.size with
        | false => rw [hc] at h; exact h.elim
        | true =>
          rw [hc] at h
          have h1 : z.cells.size = i.size := by have := Nat.eq_of_beq_eq_true hc; simpa using this
          simp only [cond_true] at h
          unfold mks at h
          split at h
          · rename_i k n k' m
            obtain ⟨⟨h0, h2, h3, h4⟩, hK⟩ := h
            refine rs_ok (v := _) (w' := _) ?_ hK
            have e1 : IntKind.i64.wrap n = n := wrap_id h0 (by omega)
            have e2 : IntKind.i64.wrap m = m := wrap_id (by omega) h4
            have hlen : z.cells.toList.length = i.size := by simpa using h1
            have e5 : ∀ (k : IntKind) (n : Int), (asInt (.int k n)).run P w = .ok n w := fun _ _ => rfl
            simp only [Instr.makeSlice, Sem.run_bind, run_underlying hu, Result.andThen_ok, e5, run_typeInfo hi, e1, e2]
            have ht : (decide (m < 0) || decide ((i.bytes : Int) * m > 2 ^ 48) || decide (n < 0) || decide (n > m)) = false := by
              have e48 : (2 ^ 48 : Int) = 281474976710656 := by decide
              simp only [e48, Bool.or_eq_false_iff, decide_eq_false_iff_not]
              omega
            rw [if_neg (by rw [ht]; simp)]
            have e6 : (pure PUnit.unit : Sem PUnit).run P w = .ok PUnit.unit w := rfl
            have e7 : ∀ b, (askRoom b).run P w = .ok () w := by intro b; unfold askRoom mark; split <;> rfl
            rw [Sem.run_bind, e7, Result.andThen_ok, Sem.run_bind, run_sizeOf hi, Result.andThen_ok]
            by_cases hz0 : m.toNat * i.size = 0
            · have e0 : zrep z.cells.toList 0 = [] := by simp [zrep]
              have e1 : ((Array.range 0).map fun x => (#[] : Array Value)[x % (#[] : Array Value).size]!) = ([] : List Value).toArray := by simp
              rw [if_pos hz0, hlen, hz0, e0, pure_bind, e1]
              rfl
            · rw [if_neg hz0, hlen, Sem.run_bind, run_zero hi hz, Result.andThen_ok, pure_bind, range_map_zero]
              rfl
          · exact h.elim
      · exact h.elim
    · exact h.elim
  · exact h.elim
theorem mks_mono {e : TypeId} {z : List Value} {b : Nat} {l c : Value} {K K' : Value → World → Prop} {w : World} (h : ∀ v w, K v w → K' v w) (hh : mks e z b l c K w) : mks e z b l c K' w := by
  cases l with
  | int k n => cases c with
    | int k' m => exact ⟨hh.1, h _ _ hh.2⟩
    | _ => exact hh.elim
  | _ => exact hh.elim
theorem ms_mono {P : Program} {t : TypeId} {l c : Value} {K K' : Value → World → Prop} {w : World} (h : ∀ v w, K v w → K' v w) (hh : ms P t l c K w) : ms P t l c K' w := by
  unfold ms at *
  cases e1 : P.underlying t with
  | none => rw [e1] at hh; exact hh.elim
  | some d =>
    rw [e1] at hh
    cases d with
    | slice e =>
      simp only at *
      cases e2 : P.info? e with
      | none => rw [e2] at hh; exact hh.elim
      | some i =>
        rw [e2] at hh
        simp only at *
        cases e3 : i.zero with
        | none => rw [e3] at hh; exact hh.elim
        | some z =>
          rw [e3] at hh
          simp only at *
          cases hc : Nat.beq z.cells.toList.length i.size with
          | false => rw [hc] at hh; exact hh.elim
          | true => rw [hc] at hh; exact mks_mono h hh
    | _ => exact hh.elim

end Go.Sh
