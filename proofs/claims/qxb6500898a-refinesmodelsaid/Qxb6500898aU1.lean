import Derived.Test.Qxb6500898aG1
import Derived.Test.Qxb6500898aShLeaf
import Derived.Test.Qxb6500898aShApp2
namespace Go.Proofs.Qxb6500898a
open Go.Sh Go.RowKit
set_option linter.unusedVariables false
set_option linter.unusedSimpArgs false

abbrev I (n : Int) : Value := .int .i64 n
abbrev U8 (n : Int) : Value := .int .u8 n
abbrev U32 (n : Int) : Value := .int .u32 n

/-! ### numbers -/
theorem wrapu8 (n : Int) : IntKind.u8.wrap n = n % 256 := by
  have e : (2 ^ IntKind.u8.bits : Int) = 256 := by decide
  unfold IntKind.wrap
  rw [e]
  simp [IntKind.signed]
theorem wrapu16 (n : Int) : IntKind.u16.wrap n = n % 65536 := by
  have e : (2 ^ IntKind.u16.bits : Int) = 65536 := by decide
  unfold IntKind.wrap
  rw [e]
  simp [IntKind.signed]
theorem wrapu32 (n : Int) : IntKind.u32.wrap n = n % 4294967296 := by
  have e : (2 ^ IntKind.u32.bits : Int) = 4294967296 := by decide
  unfold IntKind.wrap
  rw [e]
  simp [IntKind.signed]

/-- all numbers of a byte -/
theorem byte_all {P : Int → Prop} (h : ∀ n : Nat, n < 256 → P (n : Int)) {x : Int} (h0 : 0 ≤ x) (h1 : x ≤ 255) : P x := by
  have := h x.toNat (by omega)
  have e : ((x.toNat : Nat) : Int) = x := by omega
  rw [e] at this; exact this

theorem of_u8 {n : Nat} (hn : n < 256) : (BitVec.ofInt IntKind.u8.bits (n : Int)).toNat = n := by
  rw [BitVec.toNat_ofInt]
  have : ((2 ^ IntKind.u8.bits : Nat) : Int) = 256 := by decide
  rw [this]; omega
theorem of_u32 {n : Nat} (hn : n < 4294967296) : (BitVec.ofInt IntKind.u32.bits (n : Int)).toNat = n := by
  rw [BitVec.toNat_ofInt]
  have : ((2 ^ IntKind.u32.bits : Nat) : Int) = 4294967296 := by decide
  rw [this]; omega

theorem and_u8 (m : Nat) (hm : m < 256) : ∀ x : Int, 0 ≤ x → x ≤ 255 → IntKind.u8.wrap (BitVec.ofInt IntKind.u8.bits x &&& BitVec.ofInt IntKind.u8.bits (m : Int)).toNat = ((x.toNat &&& m : Nat) : Int) := by
  intro x h0 h1
  obtain ⟨n, rfl⟩ : ∃ n : Nat, x = (n : Int) := ⟨x.toNat, by omega⟩
  have hn : n < 256 := by omega
  rw [wrapu8, BitVec.toNat_and, of_u8 hn, of_u8 hm]
  have : n &&& m < 256 := Nat.lt_of_le_of_lt Nat.and_le_left hn
  have e : ((n : Int)).toNat = n := by omega
  rw [e]
  omega

theorem and31 {x : Int} (h0 : 0 ≤ x) (h1 : x ≤ 255) : IntKind.u8.wrap (BitVec.ofInt IntKind.u8.bits x &&& BitVec.ofInt IntKind.u8.bits 31).toNat = x % 32 := by
  have := and_u8 31 (by decide) x h0 h1
  rw [show ((31 : Nat) : Int) = 31 from rfl] at this
  rw [this, show (31 : Nat) = 2 ^ 5 - 1 from rfl, Nat.and_two_pow_sub_one_eq_mod]
  omega
theorem and15 {x : Int} (h0 : 0 ≤ x) (h1 : x ≤ 255) : IntKind.u8.wrap (BitVec.ofInt IntKind.u8.bits x &&& BitVec.ofInt IntKind.u8.bits 15).toNat = x % 16 := by
  have := and_u8 15 (by decide) x h0 h1
  rw [show ((15 : Nat) : Int) = 15 from rfl] at this
  rw [this, show (15 : Nat) = 2 ^ 4 - 1 from rfl, Nat.and_two_pow_sub_one_eq_mod]
  omega
theorem and7 {x : Int} (h0 : 0 ≤ x) (h1 : x ≤ 255) : IntKind.u8.wrap (BitVec.ofInt IntKind.u8.bits x &&& BitVec.ofInt IntKind.u8.bits 7).toNat = x % 8 := by
  have := and_u8 7 (by decide) x h0 h1
  rw [show ((7 : Nat) : Int) = 7 from rfl] at this
  rw [this, show (7 : Nat) = 2 ^ 3 - 1 from rfl, Nat.and_two_pow_sub_one_eq_mod]
  omega
theorem and63 {x : Int} (h0 : 0 ≤ x) (h1 : x ≤ 255) : IntKind.u8.wrap (BitVec.ofInt IntKind.u8.bits x &&& BitVec.ofInt IntKind.u8.bits 63).toNat = x % 64 := by
  have := and_u8 63 (by decide) x h0 h1
  rw [show ((63 : Nat) : Int) = 63 from rfl] at this
  rw [this, show (63 : Nat) = 2 ^ 6 - 1 from rfl, Nat.and_two_pow_sub_one_eq_mod]
  omega
theorem and192 {x : Int} (h0 : 0 ≤ x) (h1 : x ≤ 255) : (IntKind.u8.wrap (BitVec.ofInt IntKind.u8.bits x &&& BitVec.ofInt IntKind.u8.bits 192).toNat == 128) = decide (128 ≤ x ∧ x < 192) := by
  have := and_u8 192 (by decide) x h0 h1
  rw [show ((192 : Nat) : Int) = 192 from rfl] at this
  rw [this]
  have hx : x.toNat < 256 := by omega
  have key : ∀ n : Nat, n < 256 → ((n &&& 192) = 128 ↔ 128 ≤ n ∧ n < 192) := by decide +kernel
  have := key x.toNat hx
  rw [Bool.eq_iff_iff]
  simp only [beq_iff_eq, decide_eq_true_eq]
  constructor
  · intro q
    have : (x.toNat &&& 192) = 128 := by omega
    have := (key x.toNat hx).1 this
    omega
  · intro q
    have := (key x.toNat hx).2 (by omega)
    omega

/-- 'or' of numbers whose digits do not meet -/
theorem or_u32 {i a b : Nat} (hb : b < 2 ^ i) (hs : a * 2 ^ i + b < 4294967296) :
    IntKind.u32.wrap (BitVec.ofInt IntKind.u32.bits ((a * 2 ^ i : Nat) : Int) ||| BitVec.ofInt IntKind.u32.bits ((b : Nat) : Int)).toNat = ((a * 2 ^ i + b : Nat) : Int) := by
  have q3 : a * 2 ^ i ||| b = a * 2 ^ i + b := by rw [Nat.mul_comm, Nat.two_pow_add_eq_or_of_lt hb]
  rw [wrapu32, BitVec.toNat_or, of_u32 (by omega), of_u32 (by omega), q3]
  omega
end Go.Proofs.Qxb6500898a
