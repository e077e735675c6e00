/-
  Qxb6500896aGreatShIv: own work. Rules for the index of an array's value and for the field of a struct's value.
-/
import Derived.Test.Qxb6500896aGreatShSimp
namespace Go.Sh
set_option linter.unusedVariables false
set_option linter.unusedSimpArgs false

def ivK (P : Program) (t : TypeId) : Option Nat :=
  match P.underlying t with
  | some (.array l e) => match tyK P e, P.info? e with
    | some none, some i => bif i.size == 1 then some l else none
    | _, _ => none
  | _ => none

def fiK (P : Program) (t : TypeId) (f : Nat) : Option Nat :=
  match P.underlying t with
  | some (.struct fs) => match fs[f]? with
    | some x => match tyK P x.type with
      | some none => some x.offset
      | _ => none
    | none => none
  | _ => none

theorem iv_r {P : Program} {t : TypeId} {k : IntKind} {i : Int} {len : Nat} {cs : Array Value} {v : Value} {K : Value → World → Prop} {w : World}
    (h : ivK P t = some len) (h0 : 0 ≤ i) (h1 : i < len) (hv : cs[i.toNat]? = some v) (hK : K v w) : iv P t (.agg cs) (.int k i) K w := by
  unfold ivK at h
  split at h
  · rename_i l e hu
    split at h
    · rename_i inf hk hi
      cases hs : (inf.size == 1) with
      | false => rw [hs] at h; cases h
      | true =>
        rw [hs] at h
        cases h
        have hs1 : inf.size = 1 := by simpa using hs
        unfold iv
        refine rs_ok (v := v) (w' := w) ?_ hK
        unfold Instr.index
        simp only [asIntOf, Sem.run_bind, Sem.run_pure, run_underlying hu, Result.andThen]
        rw [if_pos ⟨h0, h1⟩]
        simp only [Sem.run_bind, run_sizeOf hi, hs1, Nat.mul_one, Result.andThen]
        unfold part
        simp only [Sem.run_bind, run_isAgg_none hk, Bool.false_eq_true, if_false, hv, Result.andThen]
        rfl
    · cases h
  · cases h

theorem fi_r {P : Program} {t : TypeId} {f o : Nat} {cs : Array Value} {v : Value} {K : Value → World → Prop} {w : World}
    (h : fiK P t f = some o) (hv : cs[o]? = some v) (hK : K v w) : fi P t (.agg cs) f K w := by
  unfold fiK at h
  split at h
  · rename_i fs hu
    split at h
    · rename_i x hx
      split at h
      · rename_i hk
        cases h
        unfold fi
        refine rs_ok (v := v) (w' := w) ?_ hK
        unfold Instr.field
        simp only [Sem.run_bind, run_underlying hu, hx, asAgg, Sem.run_pure, Result.andThen]
        unfold part
        simp only [Sem.run_bind, run_isAgg_none hk, Bool.false_eq_true, if_false, hv, Result.andThen]
        rfl
      · cases h
    · cases h
  · cases h
end Go.Sh
