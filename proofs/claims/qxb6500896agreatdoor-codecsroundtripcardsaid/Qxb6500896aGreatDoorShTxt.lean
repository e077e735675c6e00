/-
  a string is appended to octets
-/
import Derived.Test.Qxb6500896aGreatDoorShAr
namespace Go.Sh
open Go.RowKit
set_option linter.unusedVariables false
set_option linter.unusedSimpArgs false

/-- the cells of a string -/
def sC (s : ByteArray) : List Value := (s.data.map fun b => (.int .u8 b.toNat : Value)).toList
theorem sC_len (s : ByteArray) : (sC s).length = s.size := by unfold sC; simp
theorem first_str {P : Program} {w : World} (size : Nat) (x : ByteArray) : (Builtin.firstCells size x.size (.string x)).run P w = .ok (sC x).toArray w := by
  have e : x.extract 0 x.size = x := ByteArray.extract_zero_size
  show Sem.run P (pure ((x.extract 0 x.size).data.map fun b => (.int .u8 b.toNat : Value))) w = _
  rw [e]
  unfold sC
  rw [Array.toArray_toList]
  rfl
/-- append(s, x...), x a string -/
def aps (e : TypeId) (z : List Value) (by_ : Nat) (s : Value) (x : ByteArray) (K : Value → World → Prop) (w : World) : Prop :=
  match s with
  | .slice base n cap =>
    (n + x.size) * by_ ≤ 140737488355328 ∧ n + x.size < 9223372036854775808 ∧
    (n + x.size ≤ cap → match base with
      | some a => stc (a.add (n * z.length)) 0 (sC x) (fun w' => K (.slice base (n + x.size) cap) w') w
      | none => K (.slice none (n + x.size) cap) w) ∧
    (cap < n + x.size → fst' z.length n (.slice base n cap) w fun old =>
      ∀ c, n + x.size ≤ c → K (.slice (some ⟨w.heap.size, 0, none⟩) (n + x.size) c) ((drw w).alloc (.cells (old ++ (sC x ++ zrep z ((c - (n + x.size)) * z.length))).toArray e)))
  | _ => False
theorem aps_rs {P : Program} {u v t e : TypeId} {i : TypeInfo} {z s : Value} {x : ByteArray} {K : Value → World → Prop} {w : World}
    (hu : P.underlying u = some (.slice e)) (hv : P.underlying v = some .string) (hi : P.info? e = some i) (hz : i.zero = some z) (hlen : z.cells.toList.length = i.size)
    (h : aps e z.cells.toList i.bytes s x K w) : rs P (Builtin.append_ #[u, v] t #[s, .string x]) K w := by
  unfold aps at h
  split at h
  · rename_i base n cap
    obtain ⟨hb, hb2, h1, h2⟩ := h
    rw [hlen] at h1 h2
    unfold Builtin.append_
    have e0 : (#[u, v] : Array TypeId)[0]? = some u := rfl
    have e1 : (#[u, v] : Array TypeId)[1]? = some v := rfl
    have e2 : (#[Value.slice base n cap, Value.string x] : Array Value)[0]? = some (.slice base n cap) := rfl
    have e3 : (#[Value.slice base n cap, Value.string x] : Array Value)[1]? = some (.string x) := rfl
    have ep : ∀ w, (pure false : Sem Bool).run P w = .ok false w := fun _ => rfl
    have em : ∀ w, (Builtin.lenOf (.string x)).run P w = .ok x.size w := fun _ => rfl
    by_cases hroom : n + x.size ≤ cap
    · have h1 := h1 hroom
      cases base with
      | none =>
        refine rs_ok (v := .slice none (n + x.size) cap) (w' := w) ?_ h1
        simp only [e0, e1, e2, e3, Sem.run_bind, run_underlying hu, run_underlying hv, Result.andThen_ok, run_sizeOf hi, ep, Bool.false_eq_true, if_false, em, Bool.not_false, if_true]
        rw [if_pos hroom, Sem.run_bind, first_str]
        rfl
      | some a =>
        simp only at h1
        obtain ⟨w', hs, hK⟩ := stc_run (P := P) _ 0 _ _ h1
        refine rs_ok (v := .slice (some a) (n + x.size) cap) (w' := w') ?_ hK
        simp only [e0, e1, e2, e3, Sem.run_bind, run_underlying hu, run_underlying hv, Result.andThen_ok, run_sizeOf hi, ep, Bool.false_eq_true, if_false, em, Bool.not_false, if_true]
        rw [if_pos hroom, Sem.run_bind, first_str, Result.andThen_ok, Sem.run_bind, hs]
        rfl
    · have h2 := h2 (by omega)
      obtain ⟨old, hf1, h2⟩ := fst_run (P := P) (fst_drw h2)
      have hc : ∀ q, n + x.size ≤ Question.cut (.appendCap (n + x.size) cap e) q := fun q => by simp only [Question.cut]; omega
      have h2 := h2 _ (hc (w.tape w.drawn (.appendCap (n + x.size) cap e)))
      refine rs_ok (v := _) (w' := _) ?_ h2
      have emax : IntKind.i64.max = 9223372036854775807 := by decide
      have ecap : ¬ Builtin.nextslicecap (n + x.size) cap * i.bytes > 2 ^ 48 := by
        have := Nat.mul_le_mul_right i.bytes (nextcap_le (n + x.size) cap (by omega))
        have e48 : (2 ^ 48 : Nat) = 281474976710656 := by decide
        have : 2 * (n + x.size) * i.bytes = 2 * ((n + x.size) * i.bytes) := Nat.mul_assoc ..
        omega
      have ech : (choose (.appendCap (n + x.size) cap e)).run P w = .ok (Question.cut (.appendCap (n + x.size) cap e) (w.tape w.drawn (.appendCap (n + x.size) cap e))) (drw w) := by
        simp [choose, Sem.run, Question.forced, drw]
      have e7 : ∀ b w, (askRoom b).run P w = .ok () w := by intro b w; unfold askRoom mark; split <;> rfl
      simp only [e0, e1, e2, e3, Sem.run_bind, run_underlying hu, run_underlying hv, Result.andThen_ok, run_sizeOf hi, ep, Bool.false_eq_true, if_false, em, Bool.not_false, if_true]
      rw [if_neg hroom, Sem.run_bind, run_typeInfo hi, Result.andThen_ok, if_neg (by rw [emax]; omega), Sem.run_bind, run_typeInfo hi, Result.andThen_ok, if_neg ecap]
      rw [Sem.run_bind, ech, Result.andThen_ok, Sem.run_bind, run_typeInfo hi, Result.andThen_ok, Sem.run_bind, e7, Result.andThen_ok, Sem.run_bind, hf1, Result.andThen_ok, Sem.run_bind, first_str,
        Result.andThen_ok, Sem.run_bind, run_zero hi hz, Result.andThen_ok, zeroCells_eq]
      have ez : old.toArray ++ (sC x).toArray ++ (zrep z.cells.toList ((Question.cut (.appendCap (n + x.size) cap e) (w.tape w.drawn (.appendCap (n + x.size) cap e)) - (n + x.size)) * z.cells.toList.length)).toArray =
          (old ++ (sC x ++ zrep z.cells.toList ((Question.cut (.appendCap (n + x.size) cap e) (w.tape w.drawn (.appendCap (n + x.size) cap e)) - (n + x.size)) * i.size))).toArray := by
        rw [hlen]; apply Array.ext'; simp
      rw [ez]
      rfl
  · exact h.elim
/-- octets -/
def uC (u : UInt8) : List Value := [.int .u8 u.toNat]
theorem uC_len (u : UInt8) : (uC u).length = 1 := rfl
theorem uC_rows : ∀ l : List UInt8, rows uC l = l.map fun b => (.int .u8 b.toNat : Value)
  | [] => rfl
  | u :: l => by rw [rows_cons, uC_rows l]; rfl
theorem sC_rows (x : ByteArray) : sC x = rows uC x.data.toList := by
  rw [uC_rows]
  unfold sC
  simp
theorem uC_sc : ∀ l : List UInt8, (rows uC l).all scal = true
  | [] => rfl
  | u :: l => by rw [rows_cons, List.all_append, uC_sc l]; rfl
/-- the slice grows by the string -/
theorem Sl.appS {w : World} {e : TypeId} {ob : Option Nat} {v : Value} {xs : List UInt8} {x : ByteArray} {z : List Value} {by_ : Nat} {K : Value → World → Prop} (hz : z.length = 1) (h : Sl uC 1 w e ob v xs)
    (hsz : (xs.length + x.size) * by_ ≤ 140737488355328) (hlen : xs.length + x.size < 9223372036854775808)
    (hK : ∀ w' v' ob', Sl uC 1 w' e ob' v' (xs ++ x.data.toList) → Kp (fun b => ob = some b) w w' → (ob' = ob ∨ ∃ b, ob' = some b ∧ w.heap.size ≤ b) → K v' w') :
    aps e z by_ v x K w := by
  have hxl : x.data.toList.length = x.size := by simp
  have hly : (rows uC x.data.toList).length = x.size := by rw [rows_length uC_len, hxl, Nat.mul_one]
  have rd1 := (Sl.rds uC_len h).2
  unfold aps
  rw [hz, sC_rows]
  cases ob with
  | none =>
    obtain ⟨rfl, rfl⟩ := h
    refine ⟨by simpa using hsz, by simpa using hlen, fun q => ?_, fun q => ?_⟩
    · have hn : x.size = 0 := by omega
      have he : x.data.toList = [] := List.eq_nil_of_length_eq_zero (by rw [hxl]; exact hn)
      show K (.slice none (0 + x.size) 0) w
      rw [hn]
      exact hK w _ none ⟨rfl, by rw [he]; rfl⟩ (Kp.refl _ _) (.inl rfl)
    · refine ⟨rfl, ?_⟩
      intro c hc
      refine hK _ _ (some w.heap.size) ⟨c, zrep z ((c - (0 + x.size)) * 1), by simp, by simp at hc ⊢; omega, by simp [zrep], ?_⟩ ?_ (.inr ⟨_, rfl, Nat.le_refl _⟩)
      · have := Row.new (drw w) e (rows uC ([] ++ x.data.toList) ++ zrep z ((c - (0 + x.size)) * 1))
        simpa [rows] using this
      · exact kp_drw.trans (kp_alloc _)
  | some b =>
    obtain ⟨cap, junk, rfl, h2', h3, h4⟩ := h
    have hlr := rows_length uC_len xs
    refine ⟨hsz, hlen, fun q => ?_, fun q => ?_⟩
    · show stc _ 0 (rows uC x.data.toList) _ w
      rw [add_mk, Nat.zero_add]
      have hj : x.size ≤ junk.length := by rw [h3]; omega
      refine stc_r (o := xs.length * 1) (rows uC x.data.toList) 0 w _ h4 (by rw [List.length_append, hlr, hly]; omega) (uC_sc _) fun w2 r2 hb2 hz2 => ?_
      refine hK w2 _ (some b) ⟨cap, junk.drop x.size, by rw [List.length_append, hxl], by rw [List.length_append, hxl]; omega, ?_, ?_⟩ ?_ (.inl rfl)
      · rw [List.length_drop, h3, List.length_append, hxl]; omega
      · have e1 : List.take (xs.length * 1 + 0) (rows uC xs ++ junk) = rows uC xs := by rw [Nat.add_zero, List.take_append_of_le_length (by omega), List.take_of_length_le (by omega)]
        have e2 : List.drop (xs.length * 1 + 0 + (rows uC x.data.toList).length) (rows uC xs ++ junk) = junk.drop x.size := by
          rw [Nat.add_zero, hly, List.drop_append, hlr, List.drop_of_length_le (by omega), List.nil_append, Nat.add_sub_cancel_left]
        rw [e1, e2] at r2
        rw [rows_append, List.append_assoc]
        exact r2
      · exact hb2.mono fun x _ (e : x = b) => by rw [e]
    · refine rd1 _ fun c hc => ?_
      refine hK _ _ (some w.heap.size) ⟨c, zrep z ((c - (xs.length + x.size)) * 1), by rw [List.length_append, hxl], by rw [List.length_append, hxl]; omega, by rw [List.length_append, hxl]; simp [zrep], ?_⟩ ?_ (.inr ⟨_, rfl, Nat.le_refl _⟩)
      · have := Row.new (drw w) e (rows uC xs ++ (rows uC x.data.toList ++ zrep z ((c - (xs.length + x.size)) * 1)))
        rw [rows_append, List.append_assoc]
        exact this
      · exact kp_drw.trans (kp_alloc _)
end Go.Sh
