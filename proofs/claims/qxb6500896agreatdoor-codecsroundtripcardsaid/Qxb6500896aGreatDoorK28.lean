import Derived.Test.Qxb6500896aGreatDoorK27
namespace Go.Proofs.Qxb6500896aGreatDoor
open Go.Sh Go.RowKit
set_option linter.unusedVariables false
set_option linter.unusedSimpArgs false

/-! ### two new variables, in whatever order they are made and filled -/
/-- one -/
def PS1 (T : TypeId) (w0 w : World) (a : Nat) (c : List Value) : Prop := Kp Emp w0 w ∧ w0.heap.size ≤ a ∧ Row w a T c
/-- two -/
def PS2 (T : TypeId) (w0 w : World) (a : Nat) (c : List Value) (b : Nat) (d : List Value) : Prop := PS1 T w0 w a c ∧ PS1 T w0 w b d ∧ a ≠ b
section
variable {w0 w : World} {T : TypeId} {a b : Nat} {c d e : List Value} {X : Value → World → Prop} {Y : World → Prop} {p q S : Prop}
theorem ps_and (h1 : S → p) (h2 : S → q) : S → p ∧ q := fun s => ⟨h1 s, h2 s⟩
theorem ps_nw0 {z : Array Value} (h : ∀ w' a, PS1 T w0 w' a z.toList → X (P a 0) w') : Kp Emp w0 w → nw T z X w := fun s => by
  refine nw_r fun w1 r1 hk1 hz1 => ?_
  exact h w1 _ ⟨s.trans hk1, by have := s.size; omega, r1⟩
theorem ps_nw1 {z : Array Value} (h : ∀ w' b, PS2 T w0 w' a c b z.toList → X (P b 0) w') : PS1 T w0 w a c → nw T z X w := fun ⟨s, sa, ra⟩ => by
  refine nw_r fun w1 r1 hk1 hz1 => ?_
  have := ra.lt
  exact h w1 _ ⟨⟨s.trans hk1, sa, hk1.row' ra⟩, ⟨s.trans hk1, by have := s.size; omega, r1⟩, by omega⟩
theorem ps_st1 {k : Nat} (hk : d.length = k) (hc : c.length = k) (hs : d.all scal = true) (h : ∀ w', PS1 T w0 w' a d → Y w') : PS1 T w0 w a c → stn k (P a 0) (.agg d.toArray) Y w := fun ⟨s, sa, ra⟩ => by
  refine stn_r (cs := d) ra hk (by omega) hs fun w1 r1 hk1 hz1 => ?_
  rw [List.take_zero, List.nil_append, Nat.zero_add, List.drop_of_length_le (by omega), List.append_nil] at r1
  exact h w1 ⟨s.then hk1 fun k hk (q : k = _) => by omega, sa, r1⟩
theorem ps_st2a {k : Nat} (hk : d.length = k) (hc : c.length = k) (hs : d.all scal = true) (h : ∀ w', PS2 T w0 w' a d b e → Y w') : PS2 T w0 w a c b e → stn k (P a 0) (.agg d.toArray) Y w := fun ⟨⟨s, sa, ra⟩, ⟨_, sb, rb⟩, hab⟩ => by
  refine stn_r (cs := d) ra hk (by omega) hs fun w1 r1 hk1 hz1 => ?_
  rw [List.take_zero, List.nil_append, Nat.zero_add, List.drop_of_length_le (by omega), List.append_nil] at r1
  have s1 : Kp Emp w0 w1 := s.then hk1 fun k hk (q : k = _) => by omega
  exact h w1 ⟨⟨s1, sa, r1⟩, ⟨s1, sb, hk1.row rb fun q => hab q.symm⟩, hab⟩
theorem ps_st2b {k : Nat} (hk : d.length = k) (hc : c.length = k) (hs : d.all scal = true) (h : ∀ w', PS2 T w0 w' b e a d → Y w') : PS2 T w0 w b e a c → stn k (P a 0) (.agg d.toArray) Y w := fun ⟨⟨_, sb, rb⟩, ⟨s, sa, ra⟩, hab⟩ => by
  refine stn_r (cs := d) ra hk (by omega) hs fun w1 r1 hk1 hz1 => ?_
  rw [List.take_zero, List.nil_append, Nat.zero_add, List.drop_of_length_le (by omega), List.append_nil] at r1
  have s1 : Kp Emp w0 w1 := s.then hk1 fun k hk (q : k = _) => by omega
  exact h w1 ⟨⟨s1, sb, hk1.row rb hab⟩, ⟨s1, sa, r1⟩, hab⟩
theorem ps2 (s : PS2 T w0 w a c b d) : Kp Emp w0 w ∧ Row w a T c ∧ Row w b T d := ⟨s.1.1, s.1.2.2, s.2.1.2.2⟩
theorem ps_ldA {bb oo k : Nat} {f : List Value} (hc : Cells w0 bb oo f) (hk : f.length = k) (h : Kp Emp w0 w → X (.agg f.toArray) w) : Kp Emp w0 w → ldn k (P bb oo) X w := fun s =>
  (hc.kp s fun q => q).ldn hk (h s)
theorem ps_ldB {bb oo k : Nat} {f : List Value} (hc : Cells w0 bb oo f) (hk : f.length = k) (h : PS1 T w0 w a c → X (.agg f.toArray) w) : PS1 T w0 w a c → ldn k (P bb oo) X w := fun s =>
  (hc.kp s.1 fun q => q).ldn hk (h s)
theorem ps_ldC {bb oo k : Nat} {f : List Value} (hc : Cells w0 bb oo f) (hk : f.length = k) (h : PS2 T w0 w a c b d → X (.agg f.toArray) w) : PS2 T w0 w a c b d → ldn k (P bb oo) X w := fun s =>
  (hc.kp s.1.1 fun q => q).ldn hk (h s)
end
end Go.Proofs.Qxb6500896aGreatDoor
