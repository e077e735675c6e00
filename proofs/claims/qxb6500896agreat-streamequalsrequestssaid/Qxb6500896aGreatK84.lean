import Derived.Test.Qxb6500896aGreatK83
namespace Go.Proofs.Qxb6500896aGreat
open Go.Sh Go.RowKit
set_option linter.unusedVariables false
set_option linter.unusedSimpArgs false

section
variable {W w w' w0 w1 : World} {fv : Value} {ans : Rq → List Int} {Z : (Nat → Prop) → World → Prop} {V F : Nat → Prop} {ob cb : Nat} {v va vt : Value} {out : List Int} {q : Rq} {K : Value → World → Prop} {now : Int}
theorem rg_snoc {α : Type} (f : Nat → List α) (n : Nat) : (List.range (n + 1)).flatMap f = (List.range n).flatMap f ++ f n := by
  rw [List.range_succ, List.flatMap_append]; simp
theorem fl_app (ans : Rq → List Int) (a b : List Rq) : (a ++ b).flatMap ans = a.flatMap ans ++ b.flatMap ans := List.flatMap_append
theorem fl_len {ans : Rq → List Int} (h : ∀ q, (ans q).length ≤ 1000000000) : ∀ l : List Rq, (l.flatMap ans).length ≤ 1000000000 * l.length
  | [] => by simp
  | q :: l => by
    have h1 := h q
    have h2 := fl_len h l
    rw [List.flatMap_cons, List.length_append, List.length_cons]
    omega
theorem obsI_len (n : Nat) : ((List.range n).flatMap obsI).length = 3 * n := by
  induction n with
  | zero => rfl
  | succ n ih => rw [rg_snoc, List.length_append, ih]; show 3 * n + 3 = _; omega
theorem obsS_len (now : Int) (a n : Nat) : ((List.range n).flatMap (obsS now a)).length ≤ n := by
  induction n with
  | zero => exact Nat.le_refl _
  | succ n ih =>
    rw [rg_snoc, List.length_append]
    have : (obsS now a n).length ≤ 1 := by unfold obsS; split <;> simp
    omega
theorem obsA_len (now : Int) (n : Nat) : ((List.range n).flatMap (obsA now)).length ≤ 11 * n := by
  induction n with
  | zero => exact Nat.le_refl _
  | succ n ih =>
    rw [rg_snoc, List.length_append]
    have := obsS_len now n 10
    have : (obsA now n).length ≤ 11 := by unfold obsA; rw [List.length_cons]; omega
    omega
/-- what is kept meanwhile: another's blocks, the configuration, the clock's reply -/
structure ObD where
  V0 : Nat → Prop
  cb : Nat
  va : Value
  vt : Value
  kb : Nat
  kl : List Value
/-- where the questions stand: the text so far -/
structure Ob (Z : (Nat → Prop) → World → Prop) (w0 w : World) (d : ObD) (v : Value) (out : List Int) : Prop where
  ex : ∃ V ob, Z V w ∧ (∀ c, d.V0 c → V c) ∧ Sl bC 1 w 5 (some ob) v out ∧ V ob ∧ w0.heap.size ≤ ob ∧ (V d.cb ∧ d.cb ≠ ob ∧ Row w d.cb 34 (park.cells d.va d.vt)) ∧ (V d.kb ∧ d.kb ≠ ob ∧ Row w d.kb 5 d.kl)
  st : Stay d.V0 w0 w
  lt : ∀ c, d.V0 c → c < w0.heap.size
variable {d : ObD}
theorem Ob.add (s : Srv W fv ans Z) (o : Ob Z w0 w d v out) (hq : QOk q) (hl : out.length ≤ 1000000000000) (hK : ∀ w' v', Ob Z w0 w' d v' (out ++ ans q) → K v' w') :
    cl Tryz.prog 57 #[.agg (q.cells nilS).toArray] (fun t w => cdy Tryz.prog fv #[t] (fun t w => apq 5 [U8 0] 1 v t K w) w) w := by
  obtain ⟨V, ob, z, h0, sl, h1, h2, ⟨h3, h4, h5⟩, h6, h7, h8⟩ := o.ex
  have hsz := o.st.1
  have hcl := h5.lt
  have hkl := h8.lt
  refine s.add z hq sl h1 hl fun w1 v1 ob1 V1 z1 hV1 hb1 sl1 ho1 st1 => hK w1 v1 ⟨⟨V1, ob1, z1, fun c hc => hV1 c (h0 c hc), sl1, hb1, ?_, ⟨hV1 _ h3, ?_, st1.2 _ ⟨h3, h4⟩ _ _ h5⟩, ⟨hV1 _ h6, ?_, st1.2 _ ⟨h6, h7⟩ _ _ h8⟩⟩, ?_, o.lt⟩
  · rcases ho1 with q | q
    · rw [q]; exact h2
    · omega
  · rcases ho1 with q | q
    · rw [q]; exact h4
    · omega
  · rcases ho1 with q | q
    · rw [q]; exact h7
    · omega
  · exact o.st.trans st1 fun c hc => ⟨h0 c hc, fun e => by have := o.lt c hc; omega⟩
theorem Ob.cfg (o : Ob Z w0 w d v out) : Row w d.cb 34 (park.cells d.va d.vt) := by
  obtain ⟨V, ob, z, h0, sl, h1, h2, ⟨h3, h4, h5⟩, h6, h7, h8⟩ := o.ex
  exact h5
theorem Ob.clk (o : Ob Z w0 w d v out) : Row w d.kb 5 d.kl := by
  obtain ⟨V, ob, z, h0, sl, h1, h2, ⟨h3, h4, h5⟩, h6, h7, h8⟩ := o.ex
  exact h8
theorem Ob.emp (s : Srv W fv ans Z) (o : Ob Z w0 w d v out) (hk : Kp Emp w w') : Ob Z w0 w' d v out := by
  obtain ⟨V, ob, z, h0, sl, h1, h2, ⟨h3, h4, h5⟩, h6, h7, h8⟩ := o.ex
  exact ⟨⟨V, ob, s.sub (s.gro (S := Emp) z hk fun b q => q.elim) fun c q => .inl q, h0, sl.kp' hk, h1, h2, ⟨h3, h4, hk.row' h5⟩, h6, h7, hk.row' h8⟩, ⟨Nat.le_trans o.st.1 hk.size, fun c hc T l r => hk.row' (o.st.2 c hc T l r)⟩, o.lt⟩
end
end Go.Proofs.Qxb6500896aGreat
