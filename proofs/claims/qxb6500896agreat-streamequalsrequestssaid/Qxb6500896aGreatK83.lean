import Derived.Test.Qxb6500896aGreatK82
import Derived.Test.Qxb6500896aGreatN12
import Derived.Test.Qxb6500896aGreatGp
namespace Go.Proofs.Qxb6500896aGreat
open Go.Sh Go.RowKit
set_option linter.unusedVariables false
set_option linter.unusedSimpArgs false

/-- whoever answers questions: Z V w, his state where the blocks V are another's -/
structure Srv (W : World) (fv : Value) (ans : Rq → List Int) (Z : (Nat → Prop) → World → Prop) : Prop where
  k : ∀ {V w}, Z V w → Kp Emp W w
  lt : ∀ {V w}, Z V w → ∀ c, V c → c < w.heap.size
  gro : ∀ {V S w w'}, Z V w → Kp S w w' → (∀ b, S b → V b) → Z (fun b => V b ∨ Nb w w' b) w'
  sub : ∀ {V V' w}, Z V w → (∀ c, V' c → V c) → Z V' w
  call : ∀ {V F w v q} {K : Value → World → Prop}, Z V w → QOk q → Ar bC 1 F w v (enc q) → (∀ b, F b → b < w.heap.size) →
    (∀ w' v' b S, Z (fun c => V c ∨ c = b) w' → Sl bC 1 w' 5 (some b) v' (ans q) → w.heap.size ≤ b → Kp S w w' → (∀ c, V c → ¬ S c) → (∀ c, c < W.heap.size → ¬ S c) → K v' w') → cdy Tryz.prog fv #[v] K w
  len : ∀ q, (ans q).length ≤ 1000000000
section
variable {W w w' w0 w1 : World} {fv : Value} {ans : Rq → List Int} {Z : (Nat → Prop) → World → Prop} {V F : Nat → Prop} {ob : Nat} {v : Value} {out : List Int} {q : Rq} {K : Value → World → Prop}
/-- blocks that are kept: as they were -/
def Stay (V : Nat → Prop) (w w' : World) : Prop := w.heap.size ≤ w'.heap.size ∧ ∀ c, V c → ∀ T l, Row w c T l → Row w' c T l
theorem Stay.refl : Stay V w w := ⟨Nat.le_refl _, fun _ _ _ _ h => h⟩
theorem Stay.trans {V' : Nat → Prop} (h1 : Stay V w w0) (h2 : Stay V' w0 w1) (h : ∀ c, V c → V' c) : Stay V w w1 := ⟨Nat.le_trans h1.1 h2.1, fun c hc T l r => h2.2 c (h c hc) T l (h1.2 c hc T l r)⟩
/-- a question is put, and what is answered is kept -/
theorem Srv.put (s : Srv W fv ans Z) (z : Z V w) (hq : QOk q)
    (hK : ∀ w' v' b V', Z V' w' → (∀ c, V c → V' c) → V' b → w.heap.size ≤ b → Sl bC 1 w' 5 (some b) v' (ans q) → Stay V w w' → K v' w') :
    cl Tryz.prog 57 #[.agg (q.cells nilS).toArray] (fun t w => cdy Tryz.prog fv #[t] K w) w := by
  refine ask_ok (F := Emp) ⟨nilS, rfl, by
    obtain ⟨op, id, at', sl, li, rfl, _⟩ := hq.ex
    exact Ar.nil⟩ hq.rqn hq.xpr fun w1 v1 b1 sl1 hb1 hk1 => ?_
  have z1 := s.gro (S := Emp) z hk1 (fun b q => q.elim)
  have el : (enc q).length ≤ 1000000 := by
    have := enc_len (q := q) (by obtain ⟨op, id, at', sl, li, rfl, _⟩ := hq.ex; simp [qq])
    omega
  refine s.call z1 hq (sl1.arb (by omega)) (fun b (e : b = _) => by rw [e]; exact hb1.2) fun w2 v2 b2 S z2 sl2 hb2 hk2 hS _ => ?_
  have s1 := hk1.size
  refine hK w2 v2 b2 _ z2 (fun c q => .inl (.inl q)) (.inr rfl) (by omega) sl2 ⟨by have := hk2.size; omega, fun c hc T l r => hk2.row (hk1.row' r) (hS c (.inl hc))⟩
/-- .. and what is answered is appended -/
theorem Srv.add (s : Srv W fv ans Z) (z : Z V w) (hq : QOk q) (ho : Sl bC 1 w 5 (some ob) v out) (hV : V ob) (hl : out.length ≤ 1000000000000)
    (hK : ∀ w' v' ob' V', Z V' w' → (∀ c, V c → V' c) → V' ob' → Sl bC 1 w' 5 (some ob') v' (out ++ ans q) → (ob' = ob ∨ w.heap.size ≤ ob') → Stay (fun c => V c ∧ c ≠ ob) w w' → K v' w') :
    cl Tryz.prog 57 #[.agg (q.cells nilS).toArray] (fun t w => cdy Tryz.prog fv #[t] (fun t w => apq 5 [U8 0] 1 v t K w) w) w := by
  refine s.put z hq fun w1 v1 b1 V1 z1 hV1 hb1 hbn sl1 st1 => ?_
  have hlen := s.len q
  obtain ⟨cap, junk, e1, e2, e3, e4⟩ := id ho
  have ho1 : Sl bC 1 w1 5 (some ob) v out := ⟨cap, junk, e1, e2, e3, st1.2 ob hV _ _ e4⟩
  refine Sl.app3 bC_len rfl (fun y _ => rfl) ho1 (sl1.rds bC_len) (by omega) (by omega) fun w2 v2 ob2 sl2 hk2 ho2 => ?_
  obtain ⟨ob3, rfl⟩ : ∃ b, ob2 = some b := by
    rcases ho2 with q | ⟨b, q, _⟩
    · exact ⟨ob, q⟩
    · exact ⟨b, q⟩
  have z2 := s.gro z1 hk2 fun b q => by cases q; exact hV1 ob hV
  have s2 := hk2.size
  have h3 : ob3 = ob ∨ w1.heap.size ≤ ob3 := by
    rcases ho2 with q | ⟨b, q, hb⟩
    · cases q; exact .inl rfl
    · cases q; exact .inr hb
  refine hK w2 v2 ob3 _ z2 (fun c q => .inl (hV1 c q)) ?_ sl2 ?_ ⟨by have := st1.1; omega, fun c hc T l r => hk2.row (st1.2 c hc.1 T l r) fun q => by cases q; exact hc.2 rfl⟩
  · rcases h3 with q | q
    · subst q; exact .inl (hV1 _ hV)
    · exact .inr ⟨q, sl2.lt⟩
  · have := st1.1
    rcases h3 with q | q
    · exact .inl q
    · exact .inr (by omega)
end
end Go.Proofs.Qxb6500896aGreat
