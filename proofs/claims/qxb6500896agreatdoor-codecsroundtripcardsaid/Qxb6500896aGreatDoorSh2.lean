/-
  The operations, last part: cutting, arithmetic, tests, conversions, len and cap.
-/
import Derived.Test.Qxb6500896aGreatDoorSh1
import Derived.LaidEql
namespace Go.Sh
open Go.RowKit
set_option linter.unusedVariables false
set_option linter.unusedSimpArgs false

/-! ### x[lo:hi] -/
def bv : Option Value → Nat → Option Int
  | none, d => some (d : Int)
  | some (.int _ n), _ => some n
  | some _, _ => none

def sls (size : Nat) (x : Value) (lo hi : Option Value) (K : Value → World → Prop) (w : World) : Prop :=
  match x with
  | .slice a len cap => match bv lo 0, bv hi len with
    | some l, some h => (0 ≤ l ∧ l ≤ h ∧ h ≤ cap) ∧ K (.slice (if cap = l.toNat then a else a.map (·.add (l.toNat * size))) (h.toNat - l.toNat) (cap - l.toNat)) w
    | _, _ => False
  | _ => False
def sla (n size : Nat) (x : Value) (lo hi : Option Value) (K : Value → World → Prop) (w : World) : Prop :=
  match x with
  | .pointer (some a) => match bv lo 0, bv hi n with
    | some l, some h => (0 ≤ l ∧ l ≤ h ∧ h ≤ n) ∧ K (.slice (some (if n = l.toNat then a else a.add (l.toNat * size))) (h.toNat - l.toNat) (n - l.toNat)) w
    | _, _ => False
  | _ => False
def slt (x : Value) (lo hi : Option Value) (K : Value → World → Prop) (w : World) : Prop :=
  match x with
  | .string s => match bv lo 0, bv hi s.size with
    | some l, some h => (0 ≤ l ∧ l ≤ h ∧ h ≤ s.size) ∧ K (.string (s.extract l.toNat h.toNat)) w
    | _, _ => False
  | _ => False
def sl (P : Program) (t : TypeId) (x : Value) (lo hi mx : Option Value) (K : Value → World → Prop) (w : World) : Prop :=
  match mx with
  | some m => rs P (Instr.sliceAt t x lo hi (some m)) K w
  | none => match P.underlying t with
    | some (.slice e) => match P.info? e with
      | some i => sls i.size x lo hi K w
      | none => False
    | some (.array n e) => match P.info? e with
      | some i => sla n i.size x lo hi K w
      | none => False
    | some .string => slt x lo hi K w
    | _ => False

theorem run_bound {P : Program} {w : World} {k : IntKind} {n : Int} {y : Nat} {c : BoundsCode} (h0 : 0 ≤ n) (h : n ≤ y) : (Instr.sliceBound (.int k n) y c).run P w = .ok n.toNat w := by
  simp [Instr.sliceBound, asIntOf, h0, h, pure, Sem.run]

theorem run_bounds {P : Program} {w : World} {b : Bool} {len cap : Nat} {lo hi : Option Value} {l h : Int} (hl : bv lo 0 = some l) (hh : bv hi len = some h) (h0 : 0 ≤ l) (h1 : l ≤ h) (h2 : h ≤ cap) :
    (Instr.sliceBounds b len cap lo hi none).run P w = .ok (l.toNat, h.toNat, cap) w := by
  unfold Instr.sliceBounds
  simp only [pure_bind]
  cases hi with
  | none =>
    simp [bv] at hh
    subst hh
    cases lo with
    | none => simp [bv] at hl; subst hl; rfl
    | some v =>
      cases v <;> simp [bv] at hl
      subst hl
      simp only [Sem.run_bind, run_bound h0 h1, Result.andThen_ok]
      rfl
  | some u =>
    cases u with
    | int ku n =>
      simp [bv] at hh
      subst hh
      have h3 : l ≤ ((Int.toNat n : Nat) : Int) := by omega
      cases lo with
      | none =>
        simp [bv] at hl
        subst hl
        simp only [Sem.run_bind, run_bound h1 h2, Result.andThen_ok]
        rfl
      | some v =>
        cases v with
        | int kv m =>
          simp [bv] at hl
          subst hl
          have h4 : 0 ≤ n := by omega
          simp only [Sem.run_bind, run_bound h4 h2, run_bound h0 h3, Result.andThen_ok]
          rfl
        | _ => simp [bv] at hl
    | _ => simp [bv] at hh

theorem sl_rs {P : Program} {t : TypeId} {x : Value} {lo hi mx : Option Value} {K : Value → World → Prop} {w : World} (h : sl P t x lo hi mx K w) : rs P (Instr.sliceAt t x lo hi mx) K w := by
  unfold sl at h
  cases mx with
  | some _ => exact h
  | none =>
    simp only at h
    split at h
    · rename_i e hu
      split at h
      · rename_i i hi'
        unfold sls at h
        split at h
        · rename_i a len cap
          split at h
          · rename_i l hh hl hhi
            obtain ⟨⟨h0, h1, h2⟩, hK⟩ := h
            refine rs_ok (v := _) (w' := w) ?_ hK
            simp only [Instr.sliceAt, Sem.run_bind, run_underlying hu, Result.andThen_ok]
            simp only [Instr.slice, Sem.run_bind, run_underlying hu, Result.andThen_ok, run_bounds hl hhi h0 h1 h2, run_sizeOf hi']
            rfl
          · exact h.elim
        · exact h.elim
      · exact h.elim
    · rename_i n e hu
      split at h
      · rename_i i hi'
        unfold sla at h
        split at h
        · rename_i a
          split at h
          · rename_i l hh hl hhi
            obtain ⟨⟨h0, h1, h2⟩, hK⟩ := h
            refine rs_ok (v := _) (w' := w) ?_ hK
            have e3 : (Instr.sureAddr (.pointer (some a))).run P w = .ok a w := rfl
            simp only [Instr.sliceAt, Sem.run_bind, run_underlying hu, Result.andThen_ok, e3, run_bounds hl hhi h0 h1 h2, run_sizeOf hi']
            rfl
          · exact h.elim
        · exact h.elim
      · exact h.elim
    · rename_i hu
      unfold slt at h
      split at h
      · rename_i s
        split at h
        · rename_i l hh hl hhi
          obtain ⟨⟨h0, h1, h2⟩, hK⟩ := h
          refine rs_ok (v := _) (w' := w) ?_ hK
          simp only [Instr.sliceAt, Sem.run_bind, run_underlying hu, Result.andThen_ok]
          simp only [Instr.slice, Sem.run_bind, run_underlying hu, Result.andThen_ok, Option.isSome_none, Bool.false_eq_true, if_false, run_bounds hl hhi h0 h1 h2]
          rfl
        · exact h.elim
      · exact h.elim
    · exact h.elim
theorem sls_mono {n : Nat} {x : Value} {lo hi : Option Value} {K K' : Value → World → Prop} {w : World} (h : ∀ v w, K v w → K' v w) (hh : sls n x lo hi K w) : sls n x lo hi K' w := by
  cases x with
  | slice a len cap =>
    unfold sls at *
    simp only at *
    cases e1 : bv lo 0 with
    | none => rw [e1] at hh; exact hh.elim
    | some l => cases e2 : bv hi len with
      | none => rw [e1, e2] at hh; exact hh.elim
      | some m => rw [e1, e2] at hh; exact ⟨hh.1, h _ _ hh.2⟩
  | _ => exact hh.elim
theorem sla_mono {n m : Nat} {x : Value} {lo hi : Option Value} {K K' : Value → World → Prop} {w : World} (h : ∀ v w, K v w → K' v w) (hh : sla n m x lo hi K w) : sla n m x lo hi K' w := by
  cases x with
  | pointer o => cases o with
    | none => exact hh.elim
    | some a =>
      unfold sla at *
      simp only at *
      cases e1 : bv lo 0 with
      | none => rw [e1] at hh; exact hh.elim
      | some l => cases e2 : bv hi n with
        | none => rw [e1, e2] at hh; exact hh.elim
        | some m => rw [e1, e2] at hh; exact ⟨hh.1, h _ _ hh.2⟩
  | _ => exact hh.elim
theorem slt_mono {x : Value} {lo hi : Option Value} {K K' : Value → World → Prop} {w : World} (h : ∀ v w, K v w → K' v w) (hh : slt x lo hi K w) : slt x lo hi K' w := by
  cases x with
  | string s =>
    unfold slt at *
    simp only at *
    cases e1 : bv lo 0 with
    | none => rw [e1] at hh; exact hh.elim
    | some l => cases e2 : bv hi s.size with
      | none => rw [e1, e2] at hh; exact hh.elim
      | some m => rw [e1, e2] at hh; exact ⟨hh.1, h _ _ hh.2⟩
  | _ => exact hh.elim
/-- a slice of a slice, with its room cut -/
theorem sl3_r {P : Program} {t e : TypeId} {i : TypeInfo} {a : Option Addr} {len cap : Nat} {l h m : Nat} {K : Value → World → Prop} {w : World} (hu : P.underlying t = some (.slice e)) (hi : P.info? e = some i) (h1 : l ≤ h) (h2 : h ≤ m) (h3 : m ≤ cap)
    (hK : K (.slice (if m = l then a else a.map (·.add (l * i.size))) (h - l) (m - l)) w) : rs P (Instr.sliceAt t (.slice a len cap) (some (.int .i64 (l : Int))) (some (.int .i64 (h : Int))) (some (.int .i64 (m : Int)))) K w := by
  refine rs_ok (v := _) (w' := w) ?_ hK
  have e1 : ∀ {n y : Nat} {c : BoundsCode}, n ≤ y → (Instr.sliceBound (.int .i64 (n : Int)) y c).run P w = .ok n w := fun {n y c} hh => by
    have := run_bound (P := P) (w := w) (k := .i64) (n := (n : Int)) (y := y) (c := c) (by omega) (by omega)
    rw [Int.toNat_natCast] at this; exact this
  have eb : (Instr.sliceBounds true len cap (some (.int .i64 (l : Int))) (some (.int .i64 (h : Int))) (some (.int .i64 (m : Int)))).run P w = .ok (l, h, m) w := by
    unfold Instr.sliceBounds
    simp only [Sem.run_bind, e1 h3, e1 h2, e1 h1, Result.andThen_ok]
    rfl
  simp only [Instr.sliceAt, Sem.run_bind, run_underlying hu, Result.andThen_ok]
  simp only [Instr.slice, Sem.run_bind, run_underlying hu, Result.andThen_ok, eb, run_sizeOf hi]
  rfl
theorem sl_mono {P : Program} {t : TypeId} {x : Value} {lo hi mx : Option Value} {K K' : Value → World → Prop} {w : World} (h : ∀ v w, K v w → K' v w) (hh : sl P t x lo hi mx K w) : sl P t x lo hi mx K' w := by
  unfold sl at *
  cases mx with
  | some m =>
    simp only at *
    replace hh := hh.go; refine ⟨?_⟩
    split
    · rename_i v w' e; rw [e] at hh; exact h _ _ hh
    · rename_i e; rw [e] at hh; exact hh
  | none =>
    simp only at *
    cases e1 : P.underlying t with
    | none => rw [e1] at hh; exact hh.elim
    | some d =>
      rw [e1] at hh
      cases d with
      | slice e =>
        simp only at *
        cases e2 : P.info? e with
        | none => rw [e2] at hh; exact hh.elim
        | some i => rw [e2] at hh; exact sls_mono h hh
      | array n e =>
        simp only at *
        cases e2 : P.info? e with
        | none => rw [e2] at hh; exact hh.elim
        | some i => rw [e2] at hh; exact sla_mono h hh
      | string => exact slt_mono h hh
      | _ => exact hh.elim

/-! ### one operand -/
def unV : UnOp → Value → Option Value
  | .not, .bool b => some (.bool (!b))
  | .neg, .int k n => some (.int k (k.wrap (0 - n)))
  | .xor, .int k n => some (.int k (k.wrap (BitVec.ofInt k.bits (if k.signed then -1 else k.max) ^^^ BitVec.ofInt k.bits n).toNat))
  | _, _ => none
def un (op : UnOp) (x : Value) (K : Value → World → Prop) (w : World) : Prop := pv (unV op x) K w
theorem un_rs {P : Program} {op : UnOp} {x : Value} {K : Value → World → Prop} {w : World} (h : un op x K w) : rs P (Op.unary op x) K w := by
  unfold un at h
  cases op <;> cases x <;> first | exact h.elim | exact ⟨h⟩

/-! ### two operands -/
def boI (op : BinOp) (a b : Value) (K : Value → World → Prop) (w : World) : Prop :=
  match a, b with
  | .int k m, .int k' n =>
    match op with
    | .shl => 0 ≤ n ∧ K (.int k (k.wrap (m * 2 ^ (min n.toNat k.bits)))) w
    | .shr => 0 ≤ n ∧ K (.int k (m.fdiv (2 ^ (min n.toNat k.bits)))) w
    | .add => k = k' ∧ K (.int k (k.wrap (m + n))) w
    | .sub => k = k' ∧ K (.int k (k.wrap (m - n))) w
    | .mul => k = k' ∧ K (.int k (k.wrap (m * n))) w
    | .quo => (k = k' ∧ n ≠ 0) ∧ K (.int k (k.wrap (m.tdiv n))) w
    | .rem => (k = k' ∧ n ≠ 0) ∧ K (.int k (m.tmod n)) w
    | .and => k = k' ∧ K (.int k (k.wrap (BitVec.ofInt k.bits m &&& BitVec.ofInt k.bits n).toNat)) w
    | .or => k = k' ∧ K (.int k (k.wrap (BitVec.ofInt k.bits m ||| BitVec.ofInt k.bits n).toNat)) w
    | .xor => k = k' ∧ K (.int k (k.wrap (BitVec.ofInt k.bits m ^^^ BitVec.ofInt k.bits n).toNat)) w
    | .andNot => k = k' ∧ K (.int k (k.wrap (BitVec.ofInt k.bits m &&& ~~~BitVec.ofInt k.bits n).toNat)) w
    | .eql => k = k' ∧ K (.bool (m == n)) w
    | .neq => k = k' ∧ K (.bool (m != n)) w
    | .lss => k = k' ∧ K (.bool (decide (m < n))) w
    | .leq => k = k' ∧ K (.bool (decide (m ≤ n))) w
    | .gtr => k = k' ∧ K (.bool (decide (n < m))) w
    | .geq => k = k' ∧ K (.bool (decide (n ≤ m))) w
  | _, _ => False
def boS (op : BinOp) (a b : Value) (K : Value → World → Prop) (w : World) : Prop :=
  match a, b with
  | .string x, .string y =>
    match op with
    | .add => ((x.size + y.size : Nat) : Int) ≤ 9223372036854775807 ∧ K (.string (x ++ y)) w
    | .eql => K (.bool (x.toList == y.toList)) w
    | .neq => K (.bool (!(x.toList == y.toList))) w
    | .lss => K (.bool (Op.bytesLess x.toList y.toList)) w
    | .leq => K (.bool (Op.bytesLess x.toList y.toList || x.toList == y.toList)) w
    | .gtr => K (.bool (!(Op.bytesLess x.toList y.toList || x.toList == y.toList))) w
    | .geq => K (.bool (!Op.bytesLess x.toList y.toList)) w
    | _ => False
  | _, _ => False
def boB (op : BinOp) (a b : Value) (K : Value → World → Prop) (w : World) : Prop :=
  match op, a, b with
  | .eql, .bool x, .bool y => K (.bool (x == y)) w
  | .neq, .bool x, .bool y => K (.bool (!(x == y))) w
  | _, _, _ => False
/-- pointers: one of them is nil -/
def boP (op : BinOp) (a b : Value) (K : Value → World → Prop) (w : World) : Prop :=
  match op, a, b with
  | .eql, .pointer none, .pointer y => K (.bool y.isNone) w
  | .neq, .pointer none, .pointer y => K (.bool (!y.isNone)) w
  | .eql, .pointer (some _), .pointer none => K (.bool false) w
  | .neq, .pointer (some _), .pointer none => K (.bool true) w
  | _, _, _ => False
def boZ (op : BinOp) (a b : Value) (K : Value → World → Prop) (w : World) : Prop :=
  match op, a, b with
  | .eql, .slice none _ _, .slice y _ _ => K (.bool y.isNone) w
  | .neq, .slice none _ _, .slice y _ _ => K (.bool (!y.isNone)) w
  | .eql, .slice (some _) _ _, .slice none _ _ => K (.bool false) w
  | .neq, .slice (some _) _ _, .slice none _ _ => K (.bool true) w
  | _, _, _ => False
/-- two interface values that hold strings, or values of types that part -/
def boE (P : Program) (tx ty : TypeId) (vx vy : Value) (F : Bool → Prop) : Prop :=
  if tx = ty then
    match vx, vy with
    | .string a, .string b => (P.underlying tx = some .string ∧ (P.info? tx).map (·.comparable) = some true) ∧ F (a == b)
    | .pointer (some a), .pointer (some b) => (∃ te, P.underlying tx = some (.pointer te) ∧ (P.info? te).isSome = true ∧ (P.info? tx).map (·.comparable) = some true ∧ a = b) ∧ F true
    | _, _ => False
  else F false
/-- interfaces -/
def boF (P : Program) (c : Bool) (op : BinOp) (a b : Value) (K : Value → World → Prop) (w : World) : Prop :=
  match op, a, b with
  | .eql, .nilIface, .nilIface => c = true ∧ K (.bool true) w
  | .neq, .nilIface, .nilIface => c = true ∧ K (.bool false) w
  | .eql, .nilIface, .iface _ _ => K (.bool false) w
  | .neq, .nilIface, .iface _ _ => K (.bool true) w
  | .eql, .iface _ _, .nilIface => K (.bool false) w
  | .neq, .iface _ _, .nilIface => K (.bool true) w
  | .eql, .iface tx vx, .iface ty vy => boE P tx ty vx vy (fun b => K (.bool b) w)
  | .neq, .iface tx vx, .iface ty vy => boE P tx ty vx vy (fun b => K (.bool (!b)) w)
  | _, _, _ => False
def isC : Operand → Bool
  | .const _ => true
  | _ => false
/-- as the model has it -/
def bor (P : Program) (op : BinOp) (t : TypeId) (x y : Operand) (a b : Value) (K : Value → World → Prop) (w : World) : Prop :=
  rs P (do eqGuard op t x y a b; binOp op t a b) K w
def bo (P : Program) (op : BinOp) (t : TypeId) (x y : Operand) (a b : Value) (K : Value → World → Prop) (w : World) : Prop :=
  match P.underlying t with
  | some (.int _) => boI op a b K w
  | some .string => boS op a b K w
  | some .bool => boB op a b K w
  | some (.pointer _) => boP op a b K w
  | some (.slice _) => boZ op a b K w
  | some (.interface _) => boF P (isC x || isC y) op a b K w
  | _ => bor P op t x y a b K w

section
variable {P : Program} {op : BinOp} {t : TypeId} {x y : Operand} {a b : Value} {K K' : Value → World → Prop} {w : World}

theorem bor_of (hg : (eqGuard op t x y a b).run P w = .ok () w) {v : Value} (hb : (binOp op t a b).run P w = .ok v w) (hK : K v w) : bor P op t x y a b K w := by
  refine rs_ok (v := v) (w' := w) ?_ hK
  rw [Sem.run_bind, hg, Result.andThen_ok, hb]

theorem run_eqGuard_int {k k' : IntKind} {m n : Int} : (eqGuard op t x y (.int k m) (.int k' n)).run P w = .ok () w := by
  unfold eqGuard; cases op <;> rfl
theorem run_eqGuard_string {m n : ByteArray} : (eqGuard op t x y (.string m) (.string n)).run P w = .ok () w := by
  unfold eqGuard; cases op <;> rfl
theorem run_eqGuard_bool {m n : Bool} : (eqGuard op t x y (.bool m) (.bool n)).run P w = .ok () w := by
  unfold eqGuard; cases op <;> rfl
theorem run_eqGuard_ptr {m n : Option Addr} : (eqGuard op t x y (.pointer m) (.pointer n)).run P w = .ok () w := by
  unfold eqGuard; cases op <;> rfl
theorem run_eqGuard_slice {m n : Option Addr} {i j k l : Nat} : (eqGuard op t x y (.slice m i j) (.slice n k l)).run P w = .ok () w := by
  unfold eqGuard; cases op <;> rfl

theorem boI_bor (h : boI op a b K w) : bor P op t x y a b K w := by
  cases a with
  | int k m => cases b with
    | int k' n =>
      cases op <;> simp only [boI] at h
      case shl => exact bor_of run_eqGuard_int (v := .int k (k.wrap (m * 2 ^ (min n.toNat k.bits)))) (by simp [binOp, Op.shift, Int.not_lt.2 h.1, pure, Sem.run]) h.2
      case shr => exact bor_of run_eqGuard_int (v := .int k (m.fdiv (2 ^ (min n.toNat k.bits)))) (by simp [binOp, Op.shift, Int.not_lt.2 h.1, pure, Sem.run]) h.2
      case quo => obtain ⟨⟨rfl, hn⟩, hK⟩ := h; exact bor_of run_eqGuard_int (v := .int k (k.wrap (m.tdiv n))) (by simp [binOp, Op.intDiv, hn, pure, Sem.run]) hK
      case rem => obtain ⟨⟨rfl, hn⟩, hK⟩ := h; exact bor_of run_eqGuard_int (v := .int k (m.tmod n)) (by simp [binOp, Op.intDiv, hn, pure, Sem.run]) hK
      all_goals
        obtain ⟨rfl, hK⟩ := h
        refine bor_of run_eqGuard_int (v := _) ?_ hK
        simp only [binOp, ne_eq, not_true, if_false]
        rfl
    | _ => exact h.elim
  | _ => exact h.elim
theorem boS_bor (h : boS op a b K w) : bor P op t x y a b K w := by
  cases a with
  | string m => cases b with
    | string n =>
      cases op <;> simp only [boS] at h
      case add =>
        refine bor_of run_eqGuard_string (v := .string (m ++ n)) ?_ h.2
        have e : IntKind.i64.max = 9223372036854775807 := by decide
        simp only [binOp, Op.stringOp]
        rw [if_neg (by rw [e]; omega)]
        rfl
      all_goals first
        | exact h.elim
        | exact bor_of run_eqGuard_string (v := _) rfl h
    | _ => exact h.elim
  | _ => exact h.elim
theorem equal_open {u v : Value} : Op.equal t u v = Op.equalIn (9999 + 1) t u v := rfl
theorem run_equal_bool {m n : Bool} (hu : P.underlying t = some .bool) : (Op.equal t (.bool m) (.bool n)).run P w = .ok (m == n) w := by
  (rw [equal_open, Op.equalIn, Sem.run_bind, run_underlying hu]; rfl)
theorem boB_bor (hu : P.underlying t = some .bool) (h : boB op a b K w) : bor P op t x y a b K w := by
  unfold boB at h
  split at h
  · exact bor_of run_eqGuard_bool (by simp only [binOp, Sem.run_bind, run_equal_bool hu, Result.andThen_ok]; rfl) h
  · exact bor_of run_eqGuard_bool (by simp only [binOp, Sem.run_bind, run_equal_bool hu, Result.andThen_ok]; rfl) h
  · exact h.elim
theorem run_equal_ptr1 {e : TypeId} {n : Option Addr} (hu : P.underlying t = some (.pointer e)) : (Op.equal t (.pointer none) (.pointer n)).run P w = .ok n.isNone w := by
  (rw [equal_open, Op.equalIn, Sem.run_bind, run_underlying hu]; rfl)
theorem run_equal_ptr2 {e : TypeId} {n : Addr} (hu : P.underlying t = some (.pointer e)) : (Op.equal t (.pointer (some n)) (.pointer none)).run P w = .ok false w := by
  (rw [equal_open, Op.equalIn, Sem.run_bind, run_underlying hu]; rfl)
theorem boP_bor {e : TypeId} (hu : P.underlying t = some (.pointer e)) (h : boP op a b K w) : bor P op t x y a b K w := by
  unfold boP at h
  split at h
  · exact bor_of run_eqGuard_ptr (by simp only [binOp, Sem.run_bind, run_equal_ptr1 hu, Result.andThen_ok]; rfl) h
  · exact bor_of run_eqGuard_ptr (by simp only [binOp, Sem.run_bind, run_equal_ptr1 hu, Result.andThen_ok]; rfl) h
  · exact bor_of run_eqGuard_ptr (by simp only [binOp, Sem.run_bind, run_equal_ptr2 hu, Result.andThen_ok]; rfl) h
  · exact bor_of run_eqGuard_ptr (by simp only [binOp, Sem.run_bind, run_equal_ptr2 hu, Result.andThen_ok]; rfl) h
  · exact h.elim
theorem run_equal_sl1 {e : TypeId} {n : Option Addr} {i j k l : Nat} (hu : P.underlying t = some (.slice e)) : (Op.equal t (.slice none i j) (.slice n k l)).run P w = .ok n.isNone w := by
  (rw [equal_open, Op.equalIn, Sem.run_bind, run_underlying hu]; rfl)
theorem run_equal_sl2 {e : TypeId} {n : Addr} {i j k l : Nat} (hu : P.underlying t = some (.slice e)) : (Op.equal t (.slice (some n) i j) (.slice none k l)).run P w = .ok false w := by
  (rw [equal_open, Op.equalIn, Sem.run_bind, run_underlying hu]; rfl)
theorem boZ_bor {e : TypeId} (hu : P.underlying t = some (.slice e)) (h : boZ op a b K w) : bor P op t x y a b K w := by
  unfold boZ at h
  split at h
  · exact bor_of run_eqGuard_slice (by simp only [binOp, Sem.run_bind, run_equal_sl1 hu, Result.andThen_ok]; rfl) h
  · exact bor_of run_eqGuard_slice (by simp only [binOp, Sem.run_bind, run_equal_sl1 hu, Result.andThen_ok]; rfl) h
  · exact bor_of run_eqGuard_slice (by simp only [binOp, Sem.run_bind, run_equal_sl2 hu, Result.andThen_ok]; rfl) h
  · exact bor_of run_eqGuard_slice (by simp only [binOp, Sem.run_bind, run_equal_sl2 hu, Result.andThen_ok]; rfl) h
  · exact h.elim
theorem run_equal_if {ms : Array (String × TypeId)} (hu : P.underlying t = some (.interface ms)) :
    (Op.equal t .nilIface .nilIface).run P w = .ok true w ∧ (∀ u v, (Op.equal t .nilIface (.iface u v)).run P w = .ok false w) ∧ (∀ u v, (Op.equal t (.iface u v) .nilIface).run P w = .ok false w) := by
  refine ⟨?_, fun u v => ?_, fun u v => ?_⟩ <;> (rw [equal_open, Op.equalIn, Sem.run_bind, run_underlying hu]; rfl)
theorem guard_if1 (hc : (isC x || isC y) = true) : (eqGuard op t x y .nilIface .nilIface).run P w = .ok () w := by
  cases x <;> cases y <;> first | (simp [isC] at hc; done) | (cases op <;> rfl)
theorem guard_if2 {u : TypeId} {v : Value} : (eqGuard op t x y .nilIface (.iface u v)).run P w = .ok () w := by
  unfold eqGuard; cases op <;> rfl
theorem guard_if3 {u : TypeId} {v : Value} : (eqGuard op t x y (.iface u v) .nilIface).run P w = .ok () w := by
  unfold eqGuard; cases op <;> rfl
theorem guard_if4 {u u' : TypeId} {v v' : Value} : (eqGuard op t x y (.iface u v) (.iface u' v')).run P w = .ok () w := by
  unfold eqGuard; cases op <;> rfl
theorem boE_run {ms : Array (String × TypeId)} (hu : P.underlying t = some (.interface ms)) {tx ty : TypeId} {vx vy : Value} {F : Bool → Prop} (h : boE P tx ty vx vy F) :
    ∃ b, (Op.equal t (.iface tx vx) (.iface ty vy)).run P w = .ok b w ∧ F b := by
  unfold boE at h
  split at h
  · rename_i e
    subst e
    split at h
    · rename_i a b
      obtain ⟨⟨h1, h2⟩, h3⟩ := h
      refine ⟨a == b, ?_, h3⟩
      cases hi : P.info? tx with
      | none => rw [hi] at h2; cases h2
      | some i =>
        rw [hi] at h2
        have hc : i.comparable = true := Option.some.inj h2
        rw [equal_open, Op.equalIn, Sem.run_bind, run_underlying hu, Result.andThen_ok]
        simp only [ne_eq, not_true_eq_false, if_false, Sem.run_bind, run_typeInfo hi, Result.andThen_ok, hc, Bool.not_true, Bool.false_eq_true]
        rw [Op.equalIn, Sem.run_bind, run_underlying h1, Result.andThen_ok]
        rfl
    · rename_i a b
      obtain ⟨⟨te, h1, h4, h2, rfl⟩, h3⟩ := h
      refine ⟨true, ?_, h3⟩
      cases hi : P.info? tx with
      | none => rw [hi] at h2; cases h2
      | some i =>
        rw [hi] at h2
        have hc : i.comparable = true := Option.some.inj h2
        cases hj : P.info? te with
        | none => rw [hj] at h4; cases h4
        | some j =>
          rw [equal_open, Op.equalIn, Sem.run_bind, run_underlying hu, Result.andThen_ok]
          simp only [ne_eq, not_true_eq_false, if_false, Sem.run_bind, run_typeInfo hi, Result.andThen_ok, hc, Bool.not_true, Bool.false_eq_true]
          rw [Op.equalIn, Sem.run_bind, run_underlying h1, Result.andThen_ok]
          simp only [sizeOf, Sem.run_bind, run_typeInfo hj, Result.andThen_ok]
          by_cases hz : j.size = 0
          · simp [hz]
          · simp [hz, Go.run_sameAddr_same]
    · exact h.elim
  · rename_i e
    refine ⟨false, ?_, h⟩
    rw [equal_open, Op.equalIn, Sem.run_bind, run_underlying hu, Result.andThen_ok]
    simp only [ne_eq, e, not_false_eq_true, if_true]
    rfl
theorem boE_mono {tx ty : TypeId} {vx vy : Value} {F F' : Bool → Prop} (hF : ∀ b, F b → F' b) (h : boE P tx ty vx vy F) : boE P tx ty vx vy F' := by
  unfold boE at *
  split
  · rename_i e
    rw [if_pos e] at h
    split at h
    · exact ⟨h.1, hF _ h.2⟩
    · exact ⟨h.1, hF _ h.2⟩
    · exact h.elim
  · rename_i e
    rw [if_neg e] at h
    exact hF _ h
theorem boE_still {tx ty : TypeId} {vx vy : Value} {F : Bool → Prop} (h : boE P tx ty vx vy F) : ∃ b, (∀ F' : Bool → Prop, F' b → boE P tx ty vx vy F') ∧ F b := by
  unfold boE at *
  split at h
  · rename_i e
    split at h
    · exact ⟨_, fun F' hF => by rw [if_pos e]; exact ⟨h.1, hF⟩, h.2⟩
    · exact ⟨_, fun F' hF => by rw [if_pos e]; exact ⟨h.1, hF⟩, h.2⟩
    · exact h.elim
  · rename_i e
    exact ⟨_, fun F' hF => by rw [if_neg e]; exact hF, h⟩
theorem boF_bor {ms : Array (String × TypeId)} (hu : P.underlying t = some (.interface ms)) (h : boF P (isC x || isC y) op a b K w) : bor P op t x y a b K w := by
  obtain ⟨e1, e2, e3⟩ := run_equal_if (w := w) hu
  unfold boF at h
  split at h
  · exact bor_of (guard_if1 h.1) (by simp only [binOp, Sem.run_bind, e1, Result.andThen_ok]; rfl) h.2
  · exact bor_of (guard_if1 h.1) (by simp only [binOp, Sem.run_bind, e1, Result.andThen_ok]; rfl) h.2
  · exact bor_of guard_if2 (by simp only [binOp, Sem.run_bind, e2, Result.andThen_ok]; rfl) h
  · exact bor_of guard_if2 (by simp only [binOp, Sem.run_bind, e2, Result.andThen_ok]; rfl) h
  · exact bor_of guard_if3 (by simp only [binOp, Sem.run_bind, e3, Result.andThen_ok]; rfl) h
  · exact bor_of guard_if3 (by simp only [binOp, Sem.run_bind, e3, Result.andThen_ok]; rfl) h
  · obtain ⟨b, hb, hF⟩ := boE_run (w := w) hu h
    exact bor_of guard_if4 (by simp only [binOp, Sem.run_bind, hb, Result.andThen_ok]; rfl) hF
  · obtain ⟨b, hb, hF⟩ := boE_run (w := w) hu h
    exact bor_of guard_if4 (by simp only [binOp, Sem.run_bind, hb, Result.andThen_ok]; rfl) hF
  · exact h.elim

theorem bo_bor (h : bo P op t x y a b K w) : bor P op t x y a b K w := by
  unfold bo at h
  split at h
  · exact boI_bor h
  · exact boS_bor h
  · rename_i hu; exact boB_bor hu h
  · rename_i hu; exact boP_bor hu h
  · rename_i hu; exact boZ_bor hu h
  · rename_i hu; exact boF_bor hu h
  · exact h

theorem boI_mono (h : ∀ v w, K v w → K' v w) (hh : boI op a b K w) : boI op a b K' w := by
  cases a with
  | int k m => cases b with
    | int k' n => cases op <;> exact ⟨hh.1, h _ _ hh.2⟩
    | _ => exact hh.elim
  | _ => exact hh.elim
theorem boS_mono (h : ∀ v w, K v w → K' v w) (hh : boS op a b K w) : boS op a b K' w := by
  cases a with
  | string m => cases b with
    | string n => cases op <;> first | exact hh.elim | exact h _ _ hh | exact ⟨hh.1, h _ _ hh.2⟩
    | _ => exact hh.elim
  | _ => exact hh.elim
theorem boB_mono (h : ∀ v w, K v w → K' v w) (hh : boB op a b K w) : boB op a b K' w := by
  cases op <;> first | exact hh.elim | (cases a <;> first | exact hh.elim | (cases b <;> first | exact hh.elim | exact h _ _ hh))
theorem boP_mono (h : ∀ v w, K v w → K' v w) (hh : boP op a b K w) : boP op a b K' w := by
  cases op <;> first | exact hh.elim | (cases a <;> first | exact hh.elim | (rename_i o; cases o <;> cases b <;> first | exact hh.elim | exact h _ _ hh | (rename_i q; cases q <;> first | exact hh.elim | exact h _ _ hh)))
theorem boZ_mono (h : ∀ v w, K v w → K' v w) (hh : boZ op a b K w) : boZ op a b K' w := by
  cases op <;> first | exact hh.elim | (cases a <;> first | exact hh.elim | (rename_i o _ _; cases o <;> cases b <;> first | exact hh.elim | exact h _ _ hh | (rename_i q _ _; cases q <;> first | exact hh.elim | exact h _ _ hh)))
theorem boF_mono {c : Bool} (h : ∀ v w, K v w → K' v w) (hh : boF P c op a b K w) : boF P c op a b K' w := by
  cases op <;> first | exact hh.elim | (cases a <;> first | exact hh.elim | (cases b <;> first | exact hh.elim | exact h _ _ hh | exact boE_mono (P := P) (F := fun b => K (.bool b) w) (F' := fun b => K' (.bool b) w) (fun _ q => h _ _ q) hh | exact boE_mono (P := P) (F := fun b => K (.bool (!b)) w) (F' := fun b => K' (.bool (!b)) w) (fun _ q => h _ _ q) hh | exact ⟨hh.1, h _ _ hh.2⟩))
theorem rs_mono {z : Sem Value} (h : ∀ v w, K v w → K' v w) (hh : rs P z K w) : rs P z K' w := by
  replace hh := hh.go; refine ⟨?_⟩
  split
  · rename_i v w' e; rw [e] at hh; exact h _ _ hh
  · rename_i e; rw [e] at hh; exact hh
theorem bo_mono (h : ∀ v w, K v w → K' v w) (hh : bo P op t x y a b K w) : bo P op t x y a b K' w := by
  unfold bo at *
  cases e1 : P.underlying t with
  | none => rw [e1] at hh; exact rs_mono h hh
  | some d =>
    rw [e1] at hh
    cases d with
    | int k => exact boI_mono h hh
    | string => exact boS_mono h hh
    | bool => exact boB_mono h hh
    | pointer e => exact boP_mono h hh
    | slice e => exact boZ_mono h hh
    | interface ms => exact boF_mono h hh
    | _ => exact rs_mono h hh
end

/-! ### conversions, interfaces, parts of values -/
def cvi (k : IntKind) (x : Value) (K : Value → World → Prop) (w : World) : Prop :=
  match x with
  | .int _ n => K (.int k (k.wrap n)) w
  | _ => False
def cv (P : Program) (a b : TypeId) (x : Value) (K : Value → World → Prop) (w : World) : Prop :=
  match P.underlying a, P.underlying b with
  | some (.int _), some (.int k) => cvi k x K w
  | _, _ => rs P (convert a b x) K w
theorem cv_rs {P : Program} {a b : TypeId} {x : Value} {K : Value → World → Prop} {w : World} (h : cv P a b x K w) : rs P (convert a b x) K w := by
  unfold cv at h
  split at h
  · rename_i k' k hu1 hu2
    cases x with
    | int k n =>
      refine rs_ok (v := _) (w' := w) ?_ h
      simp only [convert, Sem.run_bind, run_underlying hu1, run_underlying hu2, Result.andThen_ok]
      rfl
    | _ => exact h.elim
  · exact h
theorem cvi_mono {k : IntKind} {x : Value} {K K' : Value → World → Prop} {w : World} (h : ∀ v w, K v w → K' v w) (hh : cvi k x K w) : cvi k x K' w := by
  cases x with
  | int _ n => exact h _ _ hh
  | _ => exact hh.elim
theorem cv_mono {P : Program} {a b : TypeId} {x : Value} {K K' : Value → World → Prop} {w : World} (h : ∀ v w, K v w → K' v w) (hh : cv P a b x K w) : cv P a b x K' w := by
  unfold cv at *
  split
  · rename_i e1 e2; simp only [e1, e2] at hh; exact cvi_mono h hh
  · rename_i hne
    split at hh
    · rename_i e1 e2; exact (hne _ _ e1 e2).elim
    · exact rs_mono h hh

def mi (P : Program) (t : TypeId) (x : Value) (K : Value → World → Prop) (w : World) : Prop :=
  match P.underlying t with
  | none => False
  | some (.interface _) => False
  | some _ => K (.iface t x) w
theorem mi_rs {P : Program} {t : TypeId} {x : Value} {K : Value → World → Prop} {w : World} (h : mi P t x K w) : rs P (Instr.makeInterface t x) K w := by
  unfold mi at h
  split at h
  · exact h.elim
  · exact h.elim
  · rename_i d hne hu
    refine rs_ok (v := _) (w' := w) ?_ h
    simp only [Instr.makeInterface, Sem.run_bind, run_underlying hu, Result.andThen_ok]
    cases d <;> first | rfl | exact absurd hu (by simpa using hne _)
theorem mi_mono {P : Program} {t : TypeId} {x : Value} {K K' : Value → World → Prop} {w : World} (h : ∀ v w, K v w → K' v w) (hh : mi P t x K w) : mi P t x K' w := by
  unfold mi at *
  cases e : P.underlying t with
  | none => rw [e] at hh; exact hh.elim
  | some d => rw [e] at hh; cases d <;> first | exact hh.elim | exact h _ _ hh

def exq (x : Value) (i : Nat) (K : Value → World → Prop) (w : World) : Prop :=
  match x with
  | .tuple vs => pv (vs.toList[i]?) K w
  | _ => False
theorem exq_rs {P : Program} {x : Value} {i : Nat} {K : Value → World → Prop} {w : World} (h : exq x i K w) : rs P (Instr.extract x i) K w := by
  cases x with
  | tuple vs =>
    simp only [exq, Array.getElem?_toList] at h
    cases e : vs[i]? with
    | none => rw [e] at h; exact h.elim
    | some v =>
      rw [e] at h
      refine rs_ok (v := v) (w' := w) ?_ h
      simp only [Instr.extract, e]
      rfl
  | _ => exact h.elim
theorem exq_mono {x : Value} {i : Nat} {K K' : Value → World → Prop} {w : World} (h : ∀ v w, K v w → K' v w) (hh : exq x i K w) : exq x i K' w := by
  cases x with
  | tuple vs => exact pv_mono h hh
  | _ => exact hh.elim

def taq (u : TypeId) (z : Value) (ok : Bool) (x : Value) (K : Value → World → Prop) (w : World) : Prop :=
  match x with
  | .iface t v => if t = u then K (bif ok then .tuple #[v, .bool true] else v) w else (ok = true ∧ K (.tuple #[z, .bool false]) w)
  | .nilIface => ok = true ∧ K (.tuple #[z, .bool false]) w
  | _ => False
def ta (P : Program) (x : Value) (t u : TypeId) (ok : Bool) (K : Value → World → Prop) (w : World) : Prop :=
  match P.underlying u with
  | none => False
  | some (.interface _) => rs P (Instr.typeAssert x t u ok) K w
  | some _ => match (P.info? u).bind (·.zero) with
    | some z => taq u z ok x K w
    | none => False
theorem ta_rs {P : Program} {x : Value} {t u : TypeId} {ok : Bool} {K : Value → World → Prop} {w : World} (h : ta P x t u ok K w) : rs P (Instr.typeAssert x t u ok) K w := by
  unfold ta at h
  split at h
  · exact h.elim
  · exact h
  · rename_i d hne hu
    split at h
    · rename_i z hz
      obtain ⟨i, hi, hz⟩ := Option.bind_eq_some_iff.1 hz
      unfold taq at h
      split at h
      · rename_i t' v
        split at h
        · rename_i heq
          subst heq
          refine rs_ok (v := _) (w' := w) ?_ h
          simp only [Instr.typeAssert, Sem.run_bind, run_underlying hu, Result.andThen_ok]
          cases d <;> cases ok <;> first | exact absurd hu (by simpa using hne _) | (simp; done) | (simp; rfl)
        · rename_i heq
          obtain ⟨rfl, hK⟩ := h
          refine rs_ok (v := _) (w' := w) ?_ hK
          simp only [Instr.typeAssert, Sem.run_bind, run_underlying hu, Result.andThen_ok]
          cases d <;> first | exact absurd hu (by simpa using hne _) | (simp [heq, run_zero hi hz]; done) | (simp [heq, run_zero hi hz]; rfl)
      · obtain ⟨rfl, hK⟩ := h
        refine rs_ok (v := _) (w' := w) ?_ hK
        simp only [Instr.typeAssert, Sem.run_bind, run_underlying hu, Result.andThen_ok]
        cases d <;> first | exact absurd hu (by simpa using hne _) | (simp [run_zero hi hz]; done) | (simp [run_zero hi hz]; rfl)
      · exact h.elim
    · exact h.elim
theorem taq_mono {u : TypeId} {z : Value} {ok : Bool} {x : Value} {K K' : Value → World → Prop} {w : World} (h : ∀ v w, K v w → K' v w) (hh : taq u z ok x K w) : taq u z ok x K' w := by
  cases x with
  | iface t v =>
    unfold taq at *
    simp only at *
    split
    · rename_i e; rw [if_pos e] at hh; exact h _ _ hh
    · rename_i e; rw [if_neg e] at hh; exact ⟨hh.1, h _ _ hh.2⟩
  | nilIface => exact ⟨hh.1, h _ _ hh.2⟩
  | _ => exact hh.elim
theorem ta_mono {P : Program} {x : Value} {t u : TypeId} {ok : Bool} {K K' : Value → World → Prop} {w : World} (h : ∀ v w, K v w → K' v w) (hh : ta P x t u ok K w) : ta P x t u ok K' w := by
  unfold ta at *
  cases e : P.underlying u with
  | none => rw [e] at hh; exact hh.elim
  | some d =>
    rw [e] at hh
    cases e2 : (P.info? u).bind (·.zero) with
    | none => cases d <;> first | exact rs_mono h hh | (simp only [e2] at hh; done)
    | some z => cases d <;> first | exact rs_mono h hh | (simp only [e2] at hh ⊢; exact taq_mono h hh)

end Go.Sh
