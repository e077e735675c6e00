import Derived.Test.Qxb6500899aFmtG1
import Derived.Test.Qxb6500899aFmtShVs
import Derived.Test.Qxb6500899aFmtShMap
import Derived.Test.Qxb6500899aFmtShApp
import Derived.Laws.Externs
import Derived.Laws.IdiomStrings
namespace Go.Proofs.Qxb6500899aFmt
open Go.Sh Go.RowKit
open Go.Extern.Stop Go.Stop Go.Extern
set_option linter.unusedVariables false
set_option linter.unusedSimpArgs false

abbrev I (n : Int) : Value := .int .i64 n
abbrev U8 (n : Int) : Value := .int .u8 n
abbrev U32 (n : Int) : Value := .int .u32 n
abbrev U64 (n : Int) : Value := .int .u64 n
abbrev P (b o : Nat) : Value := .pointer (some ⟨b, o, none⟩)

/-! ### fmt.Sprintf: any string -/
set_option maxRecDepth 100000 in
theorem call20 (args : Array Value) (w : World) : (callFunc 20 args).run Tryf.prog w = ((FmtStop.sprintf #[9, 139] #[9] args).run Tryf.prog w).andThen fun v w' => .ok (.value v) w' :=
  run_callFunc_extern Tryf.func20 (by kernel_rfl) (by kernel_rfl) (by kernel_rfl) (by kernel_rfl) args w
set_option maxRecDepth 100000 in
theorem guardOk (name : String) (w : World) : (FmtStop.guard name).run Tryf.prog w = .ok () w := by kernel_rfl
set_option maxRecDepth 100000 in
theorem op26 (name : String) (x : Int) (w : World) : (FmtStop.operand name false 100 false (.iface 26 (.int .u32 x))).run Tryf.prog w = .ok ([8, 6, 0, 0, 0, 0, 0, 0, 0, 117, 105, 110, 116, 51, 50], Go.Extern.Stop.digits 8 (x % 2 ^ 64).toNat) w := by kernel_rfl
set_option maxRecDepth 100000 in
theorem op25 (name : String) (x : Int) (w : World) : (FmtStop.operand name false 100 false (.iface 25 (.int .u64 x))).run Tryf.prog w = .ok ([9, 6, 0, 0, 0, 0, 0, 0, 0, 117, 105, 110, 116, 54, 52], Go.Extern.Stop.digits 8 (x % 2 ^ 64).toNat) w := by kernel_rfl
set_option maxRecDepth 100000 in
theorem op3 (name : String) (x : Int) (w : World) : (FmtStop.operand name false 100 false (.iface 3 (.int .i64 x))).run Tryf.prog w = .ok ([5, 3, 0, 0, 0, 0, 0, 0, 0, 105, 110, 116], Go.Extern.Stop.digits 8 (x % 2 ^ 64).toNat) w := by kernel_rfl
/-- an operand that reads under %d -/
def Rd (v : Value) : Prop := ∀ name w, ∃ r, (FmtStop.operand name false 100 false v).run Tryf.prog w = .ok r w
theorem rd26 (x : Int) : Rd (.iface 26 (.int .u32 x)) := fun n w => ⟨_, op26 n x w⟩
theorem rd25 (x : Int) : Rd (.iface 25 (.int .u64 x)) := fun n w => ⟨_, op25 n x w⟩
theorem rd3 (x : Int) : Rd (.iface 3 (.int .i64 x)) := fun n w => ⟨_, op3 n x w⟩
theorem readAll_ok {name : String} {l : List Value} (hl : ∀ v ∈ l, Rd v) : ∀ (is : List Nat) (w : World), (∀ i ∈ is, i < l.length) → ∃ r, (FmtStop.readAll name false l (is.map fun i => (i, 100, false))).run Tryf.prog w = .ok r w
  | [], w, _ => ⟨[], rfl⟩
  | i :: is, w, h => by
    have hi := h i (List.mem_cons_self ..)
    obtain ⟨r1, e1⟩ := hl _ (List.getElem_mem hi) name w
    obtain ⟨r2, e2⟩ := readAll_ok (name := name) hl is w (fun j hj => h j (List.mem_cons_of_mem _ hj))
    refine ⟨r1 :: r2, ?_⟩
    simp only [List.map_cons, FmtStop.readAll, List.getElem?_eq_getElem hi, Sem.run_bind, e1, Result.andThen_ok, e2]
    rfl
theorem text_ok {name : String} {head : List (List UInt8)} {ops : List (List UInt8 × List UInt8)} {w : World} : ∃ s w', (FmtStop.text name head ops).run Tryf.prog w = .ok (.string s) w' ∧ (w' = w ∨ w' = drw w) := by
  unfold FmtStop.text
  rw [Sem.run_bind, run_choose_drew]
  split
  · exact ⟨_, _, rfl, .inl rfl⟩
  · exact ⟨_, _, rfl, .inr rfl⟩
theorem spf (f : ByteArray) (a : Value) : FmtStop.sprintf #[9, 139] #[9] #[.string f, a] = (do
    FmtStop.guard "fmt.Sprintf"
    let vs ← FmtStop.cells a
    match FmtStop.printed? f vs.length with
    | some ps => FmtStop.text "fmt.Sprintf" [f.data.toList] (← FmtStop.readAll "fmt.Sprintf" false vs ps)
    | none => FmtStop.text "fmt.Sprintf" [f.data.toList] (← vs.mapM (FmtStop.strict "fmt.Sprintf"))) := rfl
section
variable {w w' : World} {K : Value → World → Prop}
theorem sprintf_ok {f : ByteArray} {b n : Nat} {l : List Value} {is : List Nat} (r : Row w b 20 l) (hn : l.length = n) (hl : ∀ v ∈ l, Rd v) (hp : FmtStop.printed? f n = some (is.map fun i => (i, 100, false))) (hi : ∀ i ∈ is, i < l.length)
    (hK : ∀ s w', Kp (fun _ => False) w w' → K (.string s) w') : cx Tryf.prog 20 #[.string f, .slice (some ⟨b, 0, none⟩) n n] K w := by
  subst hn
  have hld : (loadCells ⟨b, 0, none⟩ l.length).run Tryf.prog w = .ok l.toArray w := run_loadCells_list (P := Tryf.prog) w ⟨b, 0, none⟩ l (fun j v hj => by rw [add_mk, Nat.zero_add, r.cell]; exact hj)
  obtain ⟨rr, hr⟩ := readAll_ok (name := "fmt.Sprintf") hl is w hi
  obtain ⟨s, w1, ht, hw⟩ := text_ok (name := "fmt.Sprintf") (head := [f.data.toList]) (ops := rr) (w := w)
  have e : (FmtStop.sprintf #[9, 139] #[9] #[.string f, .slice (some ⟨b, 0, none⟩) l.length l.length]).run Tryf.prog w = .ok (.string s) w1 := by
    rw [spf, Sem.run_bind, guardOk, Result.andThen_ok, Sem.run_bind]
    have hc : (FmtStop.cells (.slice (some ⟨b, 0, none⟩) l.length l.length)).run Tryf.prog w = .ok l w := by
      simp only [FmtStop.cells, Sem.run_bind, hld, Result.andThen_ok]
      rfl
    rw [hc, Result.andThen_ok, hp]
    show (do let r ← FmtStop.readAll "fmt.Sprintf" false l (is.map fun i => (i, 100, false)); FmtStop.text "fmt.Sprintf" [f.data.toList] r : Sem Value).run Tryf.prog w = _
    rw [Sem.run_bind, hr, Result.andThen_ok, ht]
  unfold cx
  rw [call20, e]
  show K (.string s) w1
  refine hK s w1 ?_
  rcases hw with rfl | rfl
  · exact Kp.refl _ _
  · exact kp_drw
end
end Go.Proofs.Qxb6500899aFmt
