/-
  append, copy, len, cap.
-/
import Derived.Test.Qxb6500896aGreatSh2
namespace Go.Sh
open Go.RowKit
set_option linter.unusedVariables false
set_option linter.unusedSimpArgs false

def drw (w : World) : World := { w with drawn := w.drawn + 1 }

def lnS (x : Value) (K : Value → World → Prop) (w : World) : Prop :=
  match x with
  | .slice _ n _ => K (.int .i64 n) w
  | _ => False
def lnT (x : Value) (K : Value → World → Prop) (w : World) : Prop :=
  match x with
  | .string s => K (.int .i64 s.size) w
  | _ => False
def cpS (x : Value) (K : Value → World → Prop) (w : World) : Prop :=
  match x with
  | .slice _ _ n => K (.int .i64 n) w
  | _ => False

/-- the first n * size cells of a slice -/
def fst' (size n : Nat) (x : Value) (w : World) (k : List Value → Prop) : Prop :=
  match x with
  | .slice (some a) _ _ => ldc a w 0 (n * size) k
  | .slice none _ _ => n = 0 ∧ k []
  | _ => False

/-- append(s, x...) -/
def apq (e : TypeId) (z : List Value) (by_ : Nat) (s x : Value) (K : Value → World → Prop) (w : World) : Prop :=
  match s, x with
  | .slice base n cap, .slice xb m xc =>
    (n + m) * by_ ≤ 140737488355328 ∧ n + m < 9223372036854775808 ∧
    (n + m ≤ cap → match base with
      | some a => fst' z.length m (.slice xb m xc) w fun vs => stc (a.add (n * z.length)) 0 vs (fun w' => K (.slice base (n + m) cap) w') w
      | none => m = 0 ∧ K (.slice none (n + m) cap) w) ∧
    (cap < n + m → fst' z.length n (.slice base n cap) w fun old => fst' z.length m (.slice xb m xc) w fun new =>
      ∀ c, n + m ≤ c → K (.slice (some ⟨w.heap.size, 0, none⟩) (n + m) c) ((drw w).alloc (.cells (old ++ (new ++ zrep z ((c - (n + m)) * z.length))).toArray e)))
  | _, _ => False

/-- copy(d, x) -/
def cpq (size : Nat) (d x : Value) (K : Value → World → Prop) (w : World) : Prop :=
  match d, x with
  | .slice base n cap, .slice xb m xc =>
    match base with
    | some a => fst' size (min m n) (.slice xb m xc) w fun vs => stc a 0 vs (fun w' => K (.int .i64 ((min m n : Nat) : Int)) w') w
    | none => n = 0 ∧ K (.int .i64 0) w
  | _, _ => False

theorem fst_run {P : Program} {w : World} {size n : Nat} {x : Value} {k : List Value → Prop} (h : fst' size n x w k) :
    ∃ vs, (Builtin.firstCells size n x).run P w = .ok vs.toArray w ∧ k vs := by
  unfold fst' at h
  split at h
  · obtain ⟨vs, h1, h2⟩ := ldc_run (P := P) _ 0 _ #[] h
    refine ⟨vs, ?_, h2⟩
    simp only [Builtin.firstCells, loadCells, h1]
    simp
  · obtain ⟨rfl, h⟩ := h; exact ⟨[], rfl, h⟩
  · exact h.elim
theorem fst_mono {w : World} {size n : Nat} {x : Value} {k k' : List Value → Prop} (h : ∀ vs, k vs → k' vs) (hh : fst' size n x w k) : fst' size n x w k' := by
  cases x with
  | slice o a b => cases o with
    | none => exact ⟨hh.1, h _ hh.2⟩
    | some ad => exact ldc_mono h hh
  | _ => exact hh.elim

theorem zeroCells_eq (z : Array Value) (n : Nat) : Builtin.zeroCells z n = (zrep z.toList (n * z.toList.length)).toArray := by
  simp only [Builtin.zeroCells]
  rw [range_map_zero]
  simp

theorem growBy_le (need : Nat) : ∀ (r c : Nat), 256 ≤ c → c ≤ 2 * need → Builtin.growBy need r c ≤ 2 * need
  | 0, c, _, h => by simp [Builtin.growBy]; omega
  | r + 1, c, h0, h => by
    simp only [Builtin.growBy]
    split
    · omega
    · exact growBy_le need r _ (by omega) (by omega)

theorem nextcap_le (need cap : Nat) (h : cap < need) : Builtin.nextslicecap need cap ≤ 2 * need := by
  unfold Builtin.nextslicecap
  split
  · omega
  · split
    · omega
    · exact growBy_le need 4 cap (by omega) (by omega)

def ap (P : Program) (ats : List TypeId) (t : TypeId) (args : List Value) (K : Value → World → Prop) (w : World) : Prop :=
  match ats, args with
  | [u, v], [s, x] => match P.underlying u, P.underlying v with
    | some (.slice e), some (.slice _) => match P.info? e with
      | some i => match i.zero with
        | some z => bif Nat.beq z.cells.toList.length i.size then apq e z.cells.toList i.bytes s x K w else False
        | none => False
      | none => False
    | _, _ => rs P (Builtin.append_ ats.toArray t args.toArray) K w
  | _, _ => False
def cp (P : Program) (ats : List TypeId) (t : TypeId) (args : List Value) (K : Value → World → Prop) (w : World) : Prop :=
  match ats, args with
  | [u, v], [s, x] => match P.underlying u, P.underlying v with
    | some (.slice e), some (.slice _) => match P.info? e with
      | some i => cpq i.size s x K w
      | none => False
    | _, _ => rs P (Builtin.copy_ ats.toArray t args.toArray) K w
  | _, _ => False

theorem ldc_drw {a : Addr} {w : World} : ∀ {n i : Nat} {k : List Value → Prop}, ldc a w i n k → ldc a (drw w) i n k
  | 0, _, _, h => h
  | n + 1, _, _, ⟨v, hv, h⟩ => ⟨v, hv, ldc_drw h⟩
theorem fst_drw {w : World} {size n : Nat} {x : Value} {k : List Value → Prop} (h : fst' size n x w k) : fst' size n x (drw w) k := by
  cases x with
  | slice o a b => cases o with
    | none => exact h
    | some ad => exact ldc_drw h
  | _ => exact h.elim

theorem apq_rs {P : Program} {u v t e e' : TypeId} {i : TypeInfo} {z s x : Value} {K : Value → World → Prop} {w : World}
    (hu : P.underlying u = some (.slice e)) (hv : P.underlying v = some (.slice e')) (hi : P.info? e = some i) (hz : i.zero = some z) (hlen : z.cells.toList.length = i.size)
    (h : apq e z.cells.toList i.bytes s x K w) : rs P (Builtin.append_ #[u, v] t #[s, x]) K w := by
  unfold apq at h
  split at h
  · rename_i base n cap xb m xc
    obtain ⟨hb, hb2, h1, h2⟩ := h
    have ezs : (do pure ((← underlying v) matches .int _) : Sem Bool).run P w = .ok false w := by
      rw [Sem.run_bind, run_underlying hv]; rfl
    have elen : (Builtin.lenOf (.slice xb m xc)).run P w = .ok m w := rfl
    rw [hlen] at h1 h2
    unfold Builtin.append_
    have e0 : (#[u, v] : Array TypeId)[0]? = some u := rfl
    have e1 : (#[u, v] : Array TypeId)[1]? = some v := rfl
    have e2 : (#[Value.slice base n cap, Value.slice xb m xc] : Array Value)[0]? = some (.slice base n cap) := rfl
    have e3 : (#[Value.slice base n cap, Value.slice xb m xc] : Array Value)[1]? = some (.slice xb m xc) := rfl
    have ep : ∀ w, (pure false : Sem Bool).run P w = .ok false w := fun _ => rfl
    have em : ∀ w, (Builtin.lenOf (.slice xb m xc)).run P w = .ok m w := fun _ => rfl
    by_cases hroom : n + m ≤ cap
    · have h1 := h1 hroom
      cases base with
      | none =>
        obtain ⟨hm0, h1⟩ := h1
        refine rs_ok (v := .slice none (n + m) cap) (w' := w) ?_ h1
        simp only [e0, e1, e2, e3, Sem.run_bind, run_underlying hu, run_underlying hv, Result.andThen_ok, run_sizeOf hi, ep, Bool.false_eq_true, if_false, em, Bool.not_false, if_true]
        rw [if_pos hroom, Sem.run_bind]
        have ef : (Builtin.firstCells i.size m (.slice xb m xc)).run P w = .ok #[] w := by
          subst hm0
          cases xb with
          | none => rfl
          | some b => simp only [Builtin.firstCells, loadCells, Nat.zero_mul]; rfl
        rw [ef]
        rfl
      | some a =>
        simp only at h1
        obtain ⟨vs, hf, h1⟩ := fst_run (P := P) h1
        obtain ⟨w', hs, hK⟩ := stc_run (P := P) _ 0 _ _ h1
        refine rs_ok (v := .slice (some a) (n + m) cap) (w' := w') ?_ hK
        simp only [e0, e1, e2, e3, Sem.run_bind, run_underlying hu, run_underlying hv, Result.andThen_ok, run_sizeOf hi, ep, Bool.false_eq_true, if_false, em, Bool.not_false, if_true]
        rw [if_pos hroom, Sem.run_bind, hf, Result.andThen_ok, Sem.run_bind, hs]
        rfl
    · have h2 := h2 (by omega)
      obtain ⟨old, hf1, h2⟩ := fst_run (P := P) (fst_drw h2)
      obtain ⟨new, hf2, h2⟩ := fst_run (P := P) (fst_drw h2)
      have hc : ∀ q, n + m ≤ Question.cut (.appendCap (n + m) cap e) q := fun q => by simp only [Question.cut]; omega
      have h2 := h2 _ (hc (w.tape w.drawn (.appendCap (n + m) cap e)))
      refine rs_ok (v := _) (w' := _) ?_ h2
      have emax : IntKind.i64.max = 9223372036854775807 := by decide
      have ecap : ¬ Builtin.nextslicecap (n + m) cap * i.bytes > 2 ^ 48 := by
        have := Nat.mul_le_mul_right i.bytes (nextcap_le (n + m) cap (by omega))
        have e48 : (2 ^ 48 : Nat) = 281474976710656 := by decide
        have : 2 * (n + m) * i.bytes = 2 * ((n + m) * i.bytes) := Nat.mul_assoc ..
        omega
      have ech : (choose (.appendCap (n + m) cap e)).run P w = .ok (Question.cut (.appendCap (n + m) cap e) (w.tape w.drawn (.appendCap (n + m) cap e))) (drw w) := by
        simp [choose, Sem.run, Question.forced, drw]
      have e7 : ∀ b w, (askRoom b).run P w = .ok () w := by intro b w; unfold askRoom mark; split <;> rfl
      simp only [e0, e1, e2, e3, Sem.run_bind, run_underlying hu, run_underlying hv, Result.andThen_ok, run_sizeOf hi, ep, Bool.false_eq_true, if_false, em, Bool.not_false, if_true]
      rw [if_neg hroom, Sem.run_bind, run_typeInfo hi, Result.andThen_ok, if_neg (by rw [emax]; omega), Sem.run_bind, run_typeInfo hi, Result.andThen_ok, if_neg ecap]
      rw [Sem.run_bind, ech, Result.andThen_ok, Sem.run_bind, run_typeInfo hi, Result.andThen_ok, Sem.run_bind, e7, Result.andThen_ok, Sem.run_bind, hf1, Result.andThen_ok, Sem.run_bind, hf2,
        Result.andThen_ok, Sem.run_bind, run_zero hi hz, Result.andThen_ok, zeroCells_eq]
      have ez : old.toArray ++ new.toArray ++ (zrep z.cells.toList ((Question.cut (.appendCap (n + m) cap e) (w.tape w.drawn (.appendCap (n + m) cap e)) - (n + m)) * z.cells.toList.length)).toArray =
          (old ++ (new ++ zrep z.cells.toList ((Question.cut (.appendCap (n + m) cap e) (w.tape w.drawn (.appendCap (n + m) cap e)) - (n + m)) * i.size))).toArray := by
        rw [hlen]; apply Array.ext'; simp
      rw [ez]
      rfl
  · exact h.elim

theorem ap_rs {P : Program} {ats : List TypeId} {t : TypeId} {args : List Value} {K : Value → World → Prop} {w : World} (h : ap P ats t args K w) : rs P (Builtin.append_ ats.toArray t args.toArray) K w := by
  unfold ap at h
  split at h
  · rename_i u v s x
    split at h
    · rename_i e e' hu hv
      split at h
      · rename_i i hi
        split at h
        · rename_i z hz
          cases hc : Nat.beq z.cells.toList.length i.size with
          | false => rw [hc] at h; exact h.elim
          | true => rw [hc] at h; exact apq_rs hu hv hi hz (Nat.eq_of_beq_eq_true hc) h
        · exact h.elim
      · exact h.elim
    · exact h
  · exact h.elim

theorem cpq_rs {P : Program} {u v t e e' : TypeId} {i : TypeInfo} {s x : Value} {K : Value → World → Prop} {w : World}
    (hu : P.underlying u = some (.slice e)) (hi : P.info? e = some i) (h : cpq i.size s x K w) : rs P (Builtin.copy_ #[u, v] t #[s, x]) K w := by
  unfold cpq at h
  split at h
  · rename_i base n cap xb m xc
    have em : ∀ w, (Builtin.lenOf (.slice xb m xc)).run P w = .ok m w := fun _ => rfl
    have e0 : (#[u, v] : Array TypeId)[0]? = some u := rfl
    have e2 : (#[Value.slice base n cap, Value.slice xb m xc] : Array Value)[0]? = some (.slice base n cap) := rfl
    have e3 : (#[Value.slice base n cap, Value.slice xb m xc] : Array Value)[1]? = some (.slice xb m xc) := rfl
    unfold Builtin.copy_
    cases base with
    | none =>
      obtain ⟨hn, hK⟩ := h
      refine rs_ok (v := .int .i64 0) (w' := w) ?_ hK
      have ef : (Builtin.firstCells i.size (Nat.min m n) (.slice xb m xc)).run P w = .ok #[] w := by
        subst hn
        cases xb with
        | none => rfl
        | some b => simp only [Builtin.firstCells, loadCells, Nat.min_zero, Nat.zero_mul]; rfl
      simp only [e0, e2, e3, Sem.run_bind, run_underlying hu, Result.andThen_ok, run_sizeOf hi, em, ef]
      subst hn
      rw [show Nat.min m 0 = 0 from Nat.min_zero m]
      rfl
    | some a =>
      simp only at h
      obtain ⟨vs, hf, h1⟩ := fst_run (P := P) h
      obtain ⟨w', hs, hK⟩ := stc_run (P := P) _ 0 _ _ h1
      refine rs_ok (v := _) (w' := w') ?_ hK
      have hf : (Builtin.firstCells i.size (Nat.min m n) (.slice xb m xc)).run P w = .ok vs.toArray w := hf
      simp only [e0, e2, e3, Sem.run_bind, run_underlying hu, Result.andThen_ok, run_sizeOf hi, em, hf, hs]
      rfl
  · exact h.elim
theorem cp_rs {P : Program} {ats : List TypeId} {t : TypeId} {args : List Value} {K : Value → World → Prop} {w : World} (h : cp P ats t args K w) : rs P (Builtin.copy_ ats.toArray t args.toArray) K w := by
  unfold cp at h
  split at h
  · rename_i u v s x
    split at h
    · rename_i e e' hu hv
      split at h
      · rename_i i hi; exact cpq_rs (e' := e') hu hi h
      · exact h.elim
    · exact h
  · exact h.elim

theorem apq_mono {e : TypeId} {z : List Value} {b : Nat} {s x : Value} {K K' : Value → World → Prop} {w : World} (h : ∀ v w, K v w → K' v w) (hh : apq e z b s x K w) : apq e z b s x K' w := by
  cases s with
  | slice base n cap => cases x with
    | slice xb m xc =>
      obtain ⟨h1, h2, h3, h4⟩ := hh
      refine ⟨h1, h2, fun hr => ?_, fun hr => ?_⟩
      · have h3 := h3 hr
        cases base with
        | none => exact ⟨h3.1, h _ _ h3.2⟩
        | some a => exact fst_mono (fun vs hv => stc_mono (fun w => h _ w) _ _ _ hv) h3
      · exact fst_mono (fun vs hv => fst_mono (fun us hu c hc => h _ _ (hu c hc)) hv) (h4 hr)
    | _ => exact hh.elim
  | _ => exact hh.elim
theorem cpq_mono {n : Nat} {s x : Value} {K K' : Value → World → Prop} {w : World} (h : ∀ v w, K v w → K' v w) (hh : cpq n s x K w) : cpq n s x K' w := by
  cases s with
  | slice base n cap => cases x with
    | slice xb m xc =>
      cases base with
      | none => exact ⟨hh.1, h _ _ hh.2⟩
      | some a => exact fst_mono (fun vs hv => stc_mono (fun w => h _ w) _ _ _ hv) hh
    | _ => exact hh.elim
  | _ => exact hh.elim
theorem ap_mono {P : Program} {ats : List TypeId} {t : TypeId} {args : List Value} {K K' : Value → World → Prop} {w : World} (h : ∀ v w, K v w → K' v w) (hh : ap P ats t args K w) : ap P ats t args K' w := by
  unfold ap at *
  split at hh
  · rename_i u v s x
    split at hh
    · rename_i e e' hu hv
      split at hh
      · rename_i i hi
        split at hh
        · rename_i z hz
          cases hc : Nat.beq z.cells.toList.length i.size with
          | false => rw [hc] at hh; exact hh.elim
          | true => rw [hc] at hh; exact apq_mono h hh
        · exact hh.elim
      · exact hh.elim
    · exact rs_mono h hh
  · exact hh.elim
theorem cp_mono {P : Program} {ats : List TypeId} {t : TypeId} {args : List Value} {K K' : Value → World → Prop} {w : World} (h : ∀ v w, K v w → K' v w) (hh : cp P ats t args K w) : cp P ats t args K' w := by
  unfold cp at *
  split at hh
  · rename_i u v s x
    split at hh
    · rename_i e e' hu hv
      split at hh
      · rename_i i hi; exact cpq_mono h hh
      · exact hh.elim
    · exact rs_mono h hh
  · exact hh.elim

/-! ### the built-ins together -/
def ln (P : Program) (ats : List TypeId) (t : TypeId) (args : List Value) (K : Value → World → Prop) (w : World) : Prop :=
  match ats, args with
  | [u], [x] => match P.underlying u with
    | some (.slice _) => lnS x K w
    | some .string => lnT x K w
    | some (.array n _) => K (.int .i64 n) w
    | _ => rs P (Builtin.len_ ats.toArray t args.toArray) K w
  | _, _ => False
def cpc (P : Program) (ats : List TypeId) (t : TypeId) (args : List Value) (K : Value → World → Prop) (w : World) : Prop :=
  match ats, args with
  | [u], [x] => match P.underlying u with
    | some (.slice _) => cpS x K w
    | _ => rs P (Builtin.cap_ ats.toArray t args.toArray) K w
  | _, _ => False
theorem ln_rs {P : Program} {ats : List TypeId} {t : TypeId} {args : List Value} {K : Value → World → Prop} {w : World} (h : ln P ats t args K w) : rs P (Builtin.len_ ats.toArray t args.toArray) K w := by
  unfold ln at h
  split at h
  · rename_i u x
    split at h
    · rename_i e hu
      cases x with
      | slice a n c => exact rs_ok (v := _) (w' := w) (by simp [Builtin.len_, run_underlying hu, goInt, pure, Sem.run]) h
      | _ => exact h.elim
    · rename_i hu
      cases x with
      | string s => exact rs_ok (v := _) (w' := w) (by simp [Builtin.len_, run_underlying hu, goInt, pure, Sem.run]) h
      | _ => exact h.elim
    · rename_i n e hu
      exact rs_ok (v := _) (w' := w) (by simp [Builtin.len_, run_underlying hu, goInt, pure, Sem.run]) h
    · exact h
  · exact h.elim
theorem cpc_rs {P : Program} {ats : List TypeId} {t : TypeId} {args : List Value} {K : Value → World → Prop} {w : World} (h : cpc P ats t args K w) : rs P (Builtin.cap_ ats.toArray t args.toArray) K w := by
  unfold cpc at h
  split at h
  · rename_i u x
    split at h
    · rename_i e hu
      cases x with
      | slice a n c => exact rs_ok (v := _) (w' := w) (by simp [Builtin.cap_, run_underlying hu, goInt, pure, Sem.run]) h
      | _ => exact h.elim
    · exact h
  · exact h.elim
theorem ln_mono {P : Program} {ats : List TypeId} {t : TypeId} {args : List Value} {K K' : Value → World → Prop} {w : World} (h : ∀ v w, K v w → K' v w) (hh : ln P ats t args K w) : ln P ats t args K' w := by
  unfold ln at *
  split at hh
  · rename_i u x
    cases e : P.underlying u with
    | none => rw [e] at hh; exact rs_mono h hh
    | some d =>
      rw [e] at hh
      cases d with
      | slice e => cases x with
        | slice a n c => exact h _ _ hh
        | _ => exact hh.elim
      | string => cases x with
        | string s => exact h _ _ hh
        | _ => exact hh.elim
      | array n e => exact h _ _ hh
      | _ => exact rs_mono h hh
  · exact hh.elim
theorem cpc_mono {P : Program} {ats : List TypeId} {t : TypeId} {args : List Value} {K K' : Value → World → Prop} {w : World} (h : ∀ v w, K v w → K' v w) (hh : cpc P ats t args K w) : cpc P ats t args K' w := by
  unfold cpc at *
  split at hh
  · rename_i u x
    cases e : P.underlying u with
    | none => rw [e] at hh; exact rs_mono h hh
    | some d =>
      rw [e] at hh
      cases d with
      | slice e => cases x with
        | slice a n c => exact h _ _ hh
        | _ => exact hh.elim
      | _ => exact rs_mono h hh
  · exact hh.elim

def bi (P : Program) (b : Builtin) (ats : List TypeId) (t : TypeId) (args : List Value) (K : Value → World → Prop) (w : World) : Prop :=
  match b with
  | .append => ap P ats t args K w
  | .cap => cpc P ats t args K w
  | .copy => cp P ats t args K w
  | .len => ln P ats t args K w
  | .max => rs P (Builtin.max_ ats.toArray t args.toArray) K w
  | .min => rs P (Builtin.min_ ats.toArray t args.toArray) K w
  | .delete => rs P (Builtin.delete_ ats.toArray t args.toArray) K w
  | .clear => rs P (Builtin.clear_ ats.toArray t args.toArray) K w
  | _ => False
theorem bi_mono {P : Program} {b : Builtin} {ats : List TypeId} {t : TypeId} {args : List Value} {K K' : Value → World → Prop} {w : World} (h : ∀ v w, K v w → K' v w) (hh : bi P b ats t args K w) : bi P b ats t args K' w := by
  cases b <;> first | exact hh.elim | exact rs_mono h hh | exact ap_mono h hh | exact cp_mono h hh | exact ln_mono h hh | exact cpc_mono h hh

end Go.Sh
