import Derived.Test.Qxb6500894aDoorG1
import Derived.Test.Qxb6500894aDoorShLeaf
import Derived.Test.Qxb6500894aDoorShApp
import Derived.Test.Qxb6500894aDoorShEq2
namespace Go.Proofs.Qxb6500894aDoor
open Go.Sh Go.RowKit
set_option linter.unusedVariables false
set_option linter.unusedSimpArgs false

abbrev I (n : Int) : Value := .int .i64 n

/-- the eight cells of a value -/
structure Vc where
  k : Int
  b : Bool
  i : Int
  d1 : Int
  d2 : Int
  s : ByteArray
  e : Int
  lst : Value
def Vc.cells (x : Vc) : List Value := [.int .u8 x.k, .bool x.b, I x.i, I x.d1, .int .i32 x.d2, .string x.s, .int .u8 x.e, x.lst]
theorem Vc.cells_length (x : Vc) : x.cells.length = 8 := rfl
def dV : Vc := ⟨0, false, 0, 0, 0, ⟨#[]⟩, 0, .slice none 0 0⟩

def rdVc (W : World) (a : Addr) : Vc :=
  match W.cells? 0 a 8 with
  | some [.int _ k, .bool b, .int _ i, .int _ d1, .int _ d2, .string s, .int _ e, l] => ⟨k, b, i, d1, d2, s, e, l⟩
  | _ => dV
def kidsL (W : World) (x : Vc) : List Vc :=
  match x.lst with
  | .slice (some a) n _ => (List.range n).map fun j => rdVc W (a.add (j * 8))
  | _ => []
def LAt (W : World) (lst : Value) (ks : List Vc) : Prop :=
  (lst = .slice none 0 0 ∧ ks = []) ∨ ∃ (a : Addr) (cap : Nat), lst = .slice (some a) ks.length cap ∧ ks.length * 80 ≤ 140737488351232 ∧ ∀ j (h : j < ks.length), ∃ b o, a.add (j * 8) = ⟨b, o, none⟩ ∧ Cells W b o ks[j].cells
def VOk (W : World) : Nat → Vc → Prop
  | 0, _ => False
  | f + 1, x => x.s.size ≤ 140737488351232 ∧ LAt W x.lst (kidsL W x) ∧ ∀ k ∈ kidsL W x, VOk W f k

theorem VOk.mono {W : World} : ∀ {f f' : Nat} {x : Vc}, VOk W f x → f ≤ f' → VOk W f' x
  | 0, _, _, h, _ => h.elim
  | f + 1, 0, _, _, hf => by omega
  | f + 1, f' + 1, x, h, hf => ⟨h.1, h.2.1, fun k hk => VOk.mono (h.2.2 k hk) (by omega)⟩

theorem rdVc_of {W : World} {a : Addr} {x : Vc} (h : W.cells? 0 a 8 = some x.cells) : rdVc W a = x := by
  unfold rdVc; rw [h]; rfl

set_option maxRecDepth 100000 in
theorem leaf52 : leafTs Tryd.prog 3 52 = some [47, 4, 2, 2, 21, 9, 47, 50] := by kernel_rfl
set_option maxRecDepth 100000 in
theorem cells52 : Tryd.prog.cellsOf 52 = 8 := by kernel_rfl
set_option maxRecDepth 100000 in
theorem bytes52 : Tryd.prog.bytesOf 52 = 80 := by kernel_rfl
set_option maxRecDepth 100000 in
theorem u47 : Tryd.prog.underlying 47 = some (.int .u8) := by kernel_rfl
set_option maxRecDepth 100000 in
theorem u2 : Tryd.prog.underlying 2 = some (.int .i64) := by kernel_rfl
set_option maxRecDepth 100000 in
theorem u21 : Tryd.prog.underlying 21 = some (.int .i32) := by kernel_rfl
set_option maxRecDepth 100000 in
theorem u9 : Tryd.prog.underlying 9 = some .string := by kernel_rfl
set_option maxRecDepth 100000 in
theorem u50 : Tryd.prog.underlying 50 = some (.slice 52) := by kernel_rfl

theorem vok_of_tv {W : World} : ∀ (f g : Nat) (cs : List Value), g ≤ f → TZ Tryd.prog W reachBytes g 52 cs → ∃ x : Vc, cs = x.cells ∧ VOk W g x := by
  intro f
  induction f with
  | zero =>
    intro g cs hg h
    have : g = 0 := by omega
    subst this
    exact h.elim
  | succ f ih =>
    intro g cs hg h
    obtain ⟨hl, hv⟩ := leafTs_ok 3 52 _ leaf52 g cs h
    have hg0 : 0 < g := by
      cases g with
      | zero => exact h.elim
      | succ g => omega
    match cs, hl with
    | [v0, v1, v2, v3, v4, v5, v6, v7], _ =>
      obtain ⟨g0, _, e0, _, _, t0⟩ := hv 0 47 rfl
      obtain ⟨g1, _, e1, _, _, t1⟩ := hv 1 4 rfl
      obtain ⟨g2, _, e2, _, _, t2⟩ := hv 2 2 rfl
      obtain ⟨g3, _, e3, _, _, t3⟩ := hv 3 2 rfl
      obtain ⟨g4, _, e4, _, _, t4⟩ := hv 4 21 rfl
      obtain ⟨g5, _, e5, _, _, t5⟩ := hv 5 9 rfl
      obtain ⟨g6, _, e6, _, _, t6⟩ := hv 6 47 rfl
      obtain ⟨g7, _, e7, _, hg7, t7⟩ := hv 7 50 rfl
      simp only [List.getElem?_cons_zero, List.getElem?_cons_succ, Option.some.injEq] at e0 e1 e2 e3 e4 e5 e6 e7
      subst e0 e1 e2 e3 e4 e5 e6 e7
      obtain ⟨k, q0, _⟩ := tz_int u47 t0
      obtain ⟨b, q1⟩ := tz_bool Tryd.underlying4 t1
      obtain ⟨i, q2, _⟩ := tz_int u2 t2
      obtain ⟨d1, q3, _⟩ := tz_int u2 t3
      obtain ⟨d2, q4, _⟩ := tz_int u21 t4
      obtain ⟨s, q5, hs⟩ := tz_string u9 t5
      obtain ⟨e, q6, _⟩ := tz_int u47 t6
      simp only [List.cons.injEq, and_true] at q0 q1 q2 q3 q4 q5 q6
      subst q0 q1 q2 q3 q4 q5 q6
      obtain ⟨g, rfl⟩ : ∃ g', g = g' + 1 := ⟨g - 1, by omega⟩
      refine ⟨⟨k, b, i, d1, d2, s, e, v7⟩, rfl, hs, ?_⟩
      rcases tz_slice u50 t7 with e | ⟨a, len, cap, gg, e, hgg, hlc, hcm, hby, hel⟩
      · simp only [List.cons.injEq, and_true] at e
        subst e
        exact ⟨.inl ⟨rfl, rfl⟩, by simp [kidsL]⟩
      · simp only [List.cons.injEq, and_true] at e
        subst e
        rw [cells52] at hel
        rw [bytes52] at hby
        have hre : reachBytes = 140737488351232 := rfl
        rw [hre] at hby
        have hk : kidsL W ⟨k, b, i, d1, d2, s, e, .slice (some a) len cap⟩ = (List.range len).map fun j => rdVc W (a.add (j * 8)) := rfl
        have hkid : ∀ j, j < len → ∃ x : Vc, rdVc W (a.add (j * 8)) = x ∧ VOk W gg x ∧ ∃ b o, a.add (j * 8) = ⟨b, o, none⟩ ∧ Cells W b o x.cells := by
          intro j hj
          obtain ⟨ds, h1, h2⟩ := hel j hj
          obtain ⟨x, rfl, hx⟩ := ih gg ds (by omega) h2
          obtain ⟨b, o, e1, _, e2⟩ := cells_in h1 (by omega)
          exact ⟨x, rdVc_of h1, hx, b, o, e1, e2⟩
        rw [hk]
        refine ⟨.inr ⟨a, cap, by simp, by simpa using hby, fun j hj => ?_⟩, fun x hx => ?_⟩
        · have hj' : j < len := by simpa using hj
          obtain ⟨x, e, _, b, o, e1, e2⟩ := hkid j hj'
          refine ⟨b, o, e1, ?_⟩
          simp only [List.getElem_map, List.getElem_range]
          rw [e]; exact e2
        · obtain ⟨j, hj, rfl⟩ := List.mem_map.1 hx
          rw [List.mem_range] at hj
          obtain ⟨x, e, hx, _⟩ := hkid j hj
          rw [e]
          exact hx.mono (by omega)

section
variable {W w : World} {lst : Value} {ks : List Vc} {K : Value → World → Prop}
theorem LAt.ln (h : LAt W lst ks) (hK : K (I ks.length) w) : lnS lst K w := by
  rcases h with ⟨rfl, rfl⟩ | ⟨a, cap, rfl, _⟩
  · exact hK
  · exact hK
theorem LAt.ix (h : LAt W lst ks) {j : Nat} (hj : j < ks.length) (hK : ∀ b o, Cells W b o ks[j].cells → K (.pointer (some ⟨b, o, none⟩)) w) : ixs 8 lst (I j) K w := by
  rcases h with ⟨rfl, rfl⟩ | ⟨a, cap, rfl, _, h⟩
  · simp at hj
  · refine ⟨⟨by omega, by omega⟩, ?_⟩
    have ej : ((j : Int)).toNat = j := by omega
    obtain ⟨b, o, e, hc⟩ := h j hj
    rw [ej, e]
    exact hK b o hc
theorem LAt.len (h : LAt W lst ks) : ks.length * 80 ≤ 140737488351232 := by
  rcases h with ⟨rfl, rfl⟩ | ⟨a, cap, rfl, h, _⟩
  · simp
  · exact h
end

end Go.Proofs.Qxb6500894aDoor
