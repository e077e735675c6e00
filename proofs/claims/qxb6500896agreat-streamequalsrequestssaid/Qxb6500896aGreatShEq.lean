/-
  Equality of structs whose fields are integers.
-/
import Derived.Test.Qxb6500896aGreatShSimp
import Derived.Laws.StructEq
namespace Go.Sh
open Go.RowKit
set_option linter.unusedVariables false
set_option linter.unusedSimpArgs false

def flatF (P : Program) (xs ys : List Value) : List Field → Option (List (IntKind × Int × Int))
  | [] => some []
  | f :: fs => bif f.name == "_" then none else
    match P.underlying f.type with
    | some (.int _) => match xs[f.offset]?, ys[f.offset]? with
      | some (.int k a), some (.int k' b) => if k = k' then (flatF P xs ys fs).map ((k, a, b) :: ·) else none
      | _, _ => none
    | _ => none

theorem flatF_run {P : Program} {w : World} (d : Nat) (xs ys : List Value) : ∀ (fs : List Field) (ps : List (IntKind × Int × Int)), flatF P xs ys fs = some ps →
    (Op.eqFields (d + 1) xs.toArray ys.toArray fs).run P w = .ok (ps.all fun q => q.2.1 == q.2.2) w
  | [], ps, h => by simp [flatF] at h; subst h; rfl
  | f :: fs, ps, h => by
    simp only [flatF] at h
    cases hn : (f.name == "_") with
    | true => rw [hn] at h; cases h
    | false =>
      rw [hn] at h
      simp only [cond_false] at h
      split at h
      · rename_i q hu
        split at h
        · rename_i k a k' b hx hy
          split at h
          · rename_i hk
            subst hk
            obtain ⟨r, hr, rfl⟩ := Option.map_eq_some_iff.1 h
            have ih := flatF_run (w := w) d xs ys fs r hr
            have hn' : f.name ≠ "_" := by simpa using hn
            have hag : tyK P f.type = some none := by unfold tyK; rw [hu]
            have e1 : (part f.type xs.toArray f.offset).run P w = .ok (.int k a) w := by
              have hx' : xs.toArray[f.offset]? = some (.int k a) := by rw [List.getElem?_toArray]; exact hx
              simp only [part, Sem.run_bind, run_isAgg_none hag, Result.andThen_ok, Bool.false_eq_true, if_false, hx']
              rfl
            have e2 : (part f.type ys.toArray f.offset).run P w = .ok (.int k b) w := by
              have hy' : ys.toArray[f.offset]? = some (.int k b) := by rw [List.getElem?_toArray]; exact hy
              simp only [part, Sem.run_bind, run_isAgg_none hag, Result.andThen_ok, Bool.false_eq_true, if_false, hy']
              rfl
            simp only [Op.eqFields]
            rw [if_pos hn', Sem.run_bind, e1, Result.andThen_ok, Sem.run_bind, e2, Result.andThen_ok, Sem.run_bind, run_equalIn_int w d f.type k q a b hu, Result.andThen_ok]
            cases hab : (a == b) with
            | false => simp [hab]
            | true => simp only [Bool.not_true, Bool.false_eq_true, if_false, ih, List.all_cons, hab, Bool.true_and]
          · cases h
        · cases h
      · cases h

theorem bor_neq_flat {P : Program} {t : TypeId} {x y : Operand} {xs ys : List Value} {ps : List (IntKind × Int × Int)} {K : Value → World → Prop} {w : World}
    (hg : P.eqGuardType P.depth t = false) (ht : P.underlying t = some (.struct (P.fieldsOf t))) (hp : P.stoodInHeld t = false) (hf : flatF P xs ys (P.fieldsOf t).toList = some ps)
    (hK : K (.bool (!(ps.all fun q => q.2.1 == q.2.2))) w) : bor P .neq t x y (.agg xs.toArray) (.agg ys.toArray) K w := by
  refine bor_of (run_eqGuard_agg w .neq t x y _ _ hg) ?_ hK
  have h1 := flatF_run (w := w) 9998 xs ys _ ps hf
  have h2 : (Op.equalIn (9999 + 1) t (.agg xs.toArray) (.agg ys.toArray)).run P w = .ok (ps.all fun q => q.2.1 == q.2.2) w := by
    rw [run_equalIn_struct w 9999 t _ _ ht hp]; exact h1
  show (do let b ← Op.equalIn (9999 + 1) t (.agg xs.toArray) (.agg ys.toArray); pure (.bool (!b)) : Sem Value).run P w = _
  rw [Sem.run_bind, h2]
  rfl
theorem bor_eql_flat {P : Program} {t : TypeId} {x y : Operand} {xs ys : List Value} {ps : List (IntKind × Int × Int)} {K : Value → World → Prop} {w : World}
    (hg : P.eqGuardType P.depth t = false) (ht : P.underlying t = some (.struct (P.fieldsOf t))) (hp : P.stoodInHeld t = false) (hf : flatF P xs ys (P.fieldsOf t).toList = some ps)
    (hK : K (.bool (ps.all fun q => q.2.1 == q.2.2)) w) : bor P .eql t x y (.agg xs.toArray) (.agg ys.toArray) K w := by
  refine bor_of (run_eqGuard_agg w .eql t x y _ _ hg) ?_ hK
  have h1 := flatF_run (w := w) 9998 xs ys _ ps hf
  have h2 : (Op.equalIn (9999 + 1) t (.agg xs.toArray) (.agg ys.toArray)).run P w = .ok (ps.all fun q => q.2.1 == q.2.2) w := by
    rw [run_equalIn_struct w 9999 t _ _ ht hp]; exact h1
  show (do let b ← Op.equalIn (9999 + 1) t (.agg xs.toArray) (.agg ys.toArray); pure (.bool b) : Sem Value).run P w = _
  rw [Sem.run_bind, h2]
  rfl

end Go.Sh
