/-
  Equality of structs whose fields are integers or arrays of integers.
-/
import Derived.Test.Qxb6500899aFmtShEq
import Derived.ChangeKeysEq
namespace Go.Sh
open Go.RowKit
set_option linter.unusedVariables false
set_option linter.unusedSimpArgs false

def pairsA (xs ys : List Value) : List Nat → Option (List (IntKind × Int × Int))
  | [] => some []
  | i :: is => match xs[i]?, ys[i]? with
    | some (.int k a), some (.int k' b) => if k = k' then (pairsA xs ys is).map ((k, a, b) :: ·) else none
    | _, _ => none

theorem pairsA_run {P : Program} {w : World} {e : TypeId} {q : IntKind} (d : Nat) (hu : P.underlying e = some (.int q)) (xs ys : List Value) : ∀ (is : List Nat) (ps : List (IntKind × Int × Int)), pairsA xs ys is = some ps →
    (Op.eqItems (d + 1) e 1 xs.toArray ys.toArray is).run P w = .ok (ps.all fun q => q.2.1 == q.2.2) w
  | [], ps, h => by simp [pairsA] at h; subst h; rfl
  | i :: is, ps, h => by
    simp only [pairsA] at h
    split at h
    · rename_i k a k' b hx hy
      split at h
      · rename_i hk
        subst hk
        obtain ⟨r, hr, rfl⟩ := Option.map_eq_some_iff.1 h
        have ih := pairsA_run (w := w) d hu xs ys is r hr
        have hag : tyK P e = some none := by unfold tyK; rw [hu]
        have e1 : (part e xs.toArray (i * 1)).run P w = .ok (.int k a) w := by
          have hx' : xs.toArray[i * 1]? = some (.int k a) := by rw [Nat.mul_one, List.getElem?_toArray]; exact hx
          simp only [part, Sem.run_bind, run_isAgg_none hag, Result.andThen_ok, Bool.false_eq_true, if_false, hx']
          rfl
        have e2 : (part e ys.toArray (i * 1)).run P w = .ok (.int k b) w := by
          have hy' : ys.toArray[i * 1]? = some (.int k b) := by rw [Nat.mul_one, List.getElem?_toArray]; exact hy
          simp only [part, Sem.run_bind, run_isAgg_none hag, Result.andThen_ok, Bool.false_eq_true, if_false, hy']
          rfl
        simp only [Op.eqItems]
        rw [Sem.run_bind, e1, Result.andThen_ok, Sem.run_bind, e2, Result.andThen_ok, Sem.run_bind, run_equalIn_int w d e k q a b hu, Result.andThen_ok]
        cases hab : (a == b) with
        | false => simp [hab]
        | true => simp only [Bool.not_true, Bool.false_eq_true, if_false, ih, List.all_cons, hab, Bool.true_and]
      · cases h
    · cases h

def flatH (P : Program) (xs ys : List Value) : List Field → Option (List (IntKind × Int × Int))
  | [] => some []
  | f :: fs => bif f.name == "_" then none else
    match P.underlying f.type with
    | some (.int _) => match xs[f.offset]?, ys[f.offset]? with
      | some (.int k a), some (.int k' b) => if k = k' then (flatH P xs ys fs).map ((k, a, b) :: ·) else none
      | _, _ => none
    | some (.array n e) => match P.underlying e with
      | some (.int _) => bif Nat.beq (P.cellsOf e) 1 && (P.info? f.type).isSome && (P.info? e).isSome then
          match pairsA ((xs.drop f.offset).take (P.cellsOf f.type)) ((ys.drop f.offset).take (P.cellsOf f.type)) (List.range n) with
          | some p => (flatH P xs ys fs).map (p ++ ·)
          | none => none
        else none
      | _ => none
    | _ => none

theorem part_agg {P : Program} {w : World} {t e : TypeId} {n : Nat} {i : TypeInfo} (hu : P.underlying t = some (.array n e)) (hi : P.info? t = some i) (xs : List Value) (off : Nat) :
    (part t xs.toArray off).run P w = .ok (.agg ((xs.drop off).take (P.cellsOf t)).toArray) w := by
  have e1 : xs.toArray.extract off (off + P.cellsOf t) = ((xs.drop off).take (P.cellsOf t)).toArray := by
    rw [List.extract_toArray]; congr 1; rw [List.extract_eq_take_drop, Nat.add_sub_cancel_left]
  simp [part, isAgg, run_underlying hu, _root_.Go.run_sizeOf w hi, e1]

theorem flatH_run {P : Program} {w : World} (d : Nat) (xs ys : List Value) : ∀ (fs : List Field) (ps : List (IntKind × Int × Int)), flatH P xs ys fs = some ps →
    (Op.eqFields (d + 2) xs.toArray ys.toArray fs).run P w = .ok (ps.all fun q => q.2.1 == q.2.2) w
  | [], ps, h => by simp [flatH] at h; subst h; rfl
  | f :: fs, ps, h => by
    simp only [flatH] at h
    cases hn : (f.name == "_") with
    | true => rw [hn] at h; cases h
    | false =>
      rw [hn] at h
      simp only [cond_false] at h
      have hn' : f.name ≠ "_" := by simpa using hn
      split at h
      · rename_i q hu
        split at h
        · rename_i k a k' b hx hy
          split at h
          · rename_i hk
            subst hk
            obtain ⟨r, hr, rfl⟩ := Option.map_eq_some_iff.1 h
            have ih := flatH_run (w := w) d xs ys fs r hr
            have hag : tyK P f.type = some none := by unfold tyK; rw [hu]
            have e1 : (part f.type xs.toArray f.offset).run P w = .ok (.int k a) w := by
              have hx' : xs.toArray[f.offset]? = some (.int k a) := by rw [List.getElem?_toArray]; exact hx
              simp only [part, Sem.run_bind, run_isAgg_none hag, Result.andThen_ok, Bool.false_eq_true, if_false, hx']
              rfl
            have e2 : (part f.type ys.toArray f.offset).run P w = .ok (.int k b) w := by
              have hy' : ys.toArray[f.offset]? = some (.int k b) := by rw [List.getElem?_toArray]; exact hy
              simp only [part, Sem.run_bind, run_isAgg_none hag, Result.andThen_ok, Bool.false_eq_true, if_false, hy']
              rfl
            simp only [Op.eqFields]
            rw [if_pos hn', Sem.run_bind, e1, Result.andThen_ok, Sem.run_bind, e2, Result.andThen_ok, Sem.run_bind, run_equalIn_int w (d + 1) f.type k q a b hu, Result.andThen_ok]
            cases hab : (a == b) with
            | false => simp [hab]
            | true => simp only [Bool.not_true, Bool.false_eq_true, if_false, ih, List.all_cons, hab, Bool.true_and]
          · cases h
        · cases h
      · rename_i n e hu
        split at h
        · rename_i q hue
          cases hc : (Nat.beq (P.cellsOf e) 1 && (P.info? f.type).isSome && (P.info? e).isSome) with
          | false => rw [hc] at h; cases h
          | true =>
            rw [hc] at h
            simp only [cond_true] at h
            simp only [Bool.and_eq_true] at hc
            obtain ⟨⟨hc1, hi1⟩, hi2⟩ := hc
            have hce : P.cellsOf e = 1 := Nat.eq_of_beq_eq_true hc1
            obtain ⟨i1, hi1⟩ := Option.isSome_iff_exists.1 hi1
            obtain ⟨i2, hi2⟩ := Option.isSome_iff_exists.1 hi2
            split at h
            · rename_i p hp
              obtain ⟨r, hr, rfl⟩ := Option.map_eq_some_iff.1 h
              have ih := flatH_run (w := w) d xs ys fs r hr
              have hrun := pairsA_run (w := w) (P := P) (q := q) d hue _ _ _ p hp
              have e3 := run_equalIn_array (P := P) w (d + 1) ((xs.drop f.offset).take (P.cellsOf f.type)).toArray ((ys.drop f.offset).take (P.cellsOf f.type)).toArray hu hi2
              rw [hce, hrun] at e3
              simp only [Op.eqFields]
              rw [if_pos hn', Sem.run_bind, part_agg hu hi1, Result.andThen_ok, Sem.run_bind, part_agg hu hi1, Result.andThen_ok, Sem.run_bind, e3, Result.andThen_ok, List.all_append]
              cases hab : (p.all fun q => q.2.1 == q.2.2) with
              | false => simp [hab]
              | true => simp only [Bool.not_true, Bool.false_eq_true, if_false, ih, Bool.true_and]
            · cases h
        · cases h
      · cases h

theorem bor_neq_flatH {P : Program} {t : TypeId} {x y : Operand} {xs ys : List Value} {ps : List (IntKind × Int × Int)} {K : Value → World → Prop} {w : World}
    (hg : P.eqGuardType P.depth t = false) (ht : P.underlying t = some (.struct (P.fieldsOf t))) (hp : P.stoodInHeld t = false) (hf : flatH P xs ys (P.fieldsOf t).toList = some ps)
    (hK : K (.bool (!(ps.all fun q => q.2.1 == q.2.2))) w) : bor P .neq t x y (.agg xs.toArray) (.agg ys.toArray) K w := by
  refine bor_of (run_eqGuard_agg w .neq t x y _ _ hg) ?_ hK
  have h1 := flatH_run (w := w) 9997 xs ys _ ps hf
  have h2 : (Op.equalIn (9999 + 1) t (.agg xs.toArray) (.agg ys.toArray)).run P w = .ok (ps.all fun q => q.2.1 == q.2.2) w := by
    rw [run_equalIn_struct w 9999 t _ _ ht hp]; exact h1
  show (do let b ← Op.equalIn (9999 + 1) t (.agg xs.toArray) (.agg ys.toArray); pure (.bool (!b)) : Sem Value).run P w = _
  rw [Sem.run_bind, h2]
  rfl
end Go.Sh
