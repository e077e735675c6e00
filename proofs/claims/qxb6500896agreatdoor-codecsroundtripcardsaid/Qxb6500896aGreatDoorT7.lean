import Derived.Test.Qxb6500896aGreatDoorT6
import Derived.Test.Qxb6500896aGreatDoorShTx2
namespace Go.Proofs.Qxb6500896aGreatDoor
open Go.Sh Go.RowKit
set_option linter.unusedVariables false
set_option linter.unusedSimpArgs false

section
variable {w w' w0 : World} {K : Value → World → Prop} {v : Value} {F : Nat → Prop} {xs : List Int}
def hexD : ByteArray := ⟨#[48, 49, 50, 51, 52, 53, 54, 55, 56, 57, 97, 98, 99, 100, 101, 102]⟩
theorem hexD_get {j : Nat} (h : j < 16) : ∃ b : UInt8, hexD[j]? = some b := by
  have : j < hexD.size := h
  exact ⟨hexD[j], by simp [this]⟩
theorem and15 (x : Int) : 0 ≤ IntKind.u8.wrap (((BitVec.ofInt IntKind.u8.bits x &&& BitVec.ofInt IntKind.u8.bits 15).toNat : Nat) : Int) ∧ IntKind.u8.wrap (((BitVec.ofInt IntKind.u8.bits x &&& BitVec.ofInt IntKind.u8.bits 15).toNat : Nat) : Int) < 16 := by
  have h : (BitVec.ofInt IntKind.u8.bits x &&& BitVec.ofInt IntKind.u8.bits 15).toNat ≤ 15 := by
    rw [BitVec.toNat_and]
    exact Nat.and_le_right
  rw [wrapu8]
  omega
theorem hex_round {x : Int} (hx : 0 ≤ x ∧ x ≤ 255) {B : List Value → World → Prop} {t3 t10 t11 t12 : Value} {ob : Option Nat} {ys : List UInt8} (sl : Sl uC 1 w 5 ob t3 ys) (hl : ys.length ≤ 1000000000)
    (hK : ∀ w' v' ob' a b, Sl uC 1 w' 5 ob' v' (ys ++ [a, b]) → Kp (fun b => ob = some b) w w' → (ob' = ob ∨ ∃ b, ob' = some b ∧ w.heap.size ≤ b) → s68_p2 K B v' t10 t11 t12 w') : s68_p3 K B t3 (U8 x) t10 t11 t12 w := by
  unfold s68_p3 s68_p3_d
  have kd : Kp Emp w (drw w) := kp_drw
  have szd : (drw w).heap.size = w.heap.size := rfl
  generalize drw w = w1 at kd szd ⊢
  try simp only [e_fd, e_nck, e_pkt, e_pkf, e_gdtt, e_gdtf, e_gdft, e_gdff, e_ift, e_iff, e_not, e_ln, e_lnT, e_cp, e_cvi, e_ex20, e_ex21, e_ex30, e_ex31, e_ex32, e_add, e_sub, e_mul, e_quo, e_rem, e_and, e_or, e_xor, e_shl, e_shr, e_eql, e_neq, e_lss, e_leq, e_gtr, e_geq, e_beq, e_bne, e_peq1, e_peq2, e_pne1, e_pne2, e_zeq1, e_zeq2, e_zne1, e_zne2, e_feq1, e_fne1, e_feq2, e_fne2, e_seq, e_sne, e_ta1, e_ta2, Nat.zero_add, Nat.add_zero, Bool.not_true, Bool.not_false]
  have e1 : x.fdiv (2 ^ min (Int.toNat 4) IntKind.u8.bits) = x / 16 := by
    have : (2 : Int) ^ min (Int.toNat 4) IntKind.u8.bits = 16 := by decide
    rw [this, Int.fdiv_eq_ediv_of_nonneg _ (by decide)]
  rw [e1]
  refine ⟨by decide, ?_⟩
  obtain ⟨a, ha⟩ := hexD_get (j := (x / 16).toNat) (by omega)
  have h15 := and15 x
  generalize IntKind.u8.wrap (((BitVec.ofInt IntKind.u8.bits x &&& BitVec.ofInt IntKind.u8.bits 15).toNat : Nat) : Int) = y at h15
  obtain ⟨b, hb⟩ := hexD_get (j := y.toNat) (by omega)
  refine ⟨.int .u8 a.toNat, fun w2 _ => ivS_r uStr (by omega) ha ⟨rfl, rfl⟩, ?_⟩
  refine ⟨.int .u8 b.toNat, fun w2 _ => ivS_r uStr (by omega) hb ⟨rfl, rfl⟩, ?_⟩
  have key : ∀ {X : Value → World → Prop}, (∀ w2, Kp Emp w1 w2 → ∀ t23, apq 5 [U8 0] 1 t3 t23 (fun t24 w => s68_p2 K B t24 t10 t11 t12 w) w2 → X t23 w2) → bsq 5 [U8 0] 2 [(some (0, 1), .int .u8 a.toNat), (some (1, 1), .int .u8 b.toNat)] X w1 := by
    intro X hX
    refine bsq_r (l := rows uC [a, b]) rfl fun w2 r2 hk2 hz2 => ?_
    refine hX w2 hk2 _ ?_
    have ar := Ar.row (F := fun _ => True) uC_len r2 trivial (by simp)
    refine Sl.app3 uC_len rfl (fun y _ => rfl) ((sl.kp' kd).kp' hk2) (ar.rds uC_len) (by simp; omega) (by simp; omega) fun w3 v3 ob3 sl3 hk3 ho3 => ?_
    refine hK w3 v3 ob3 a b sl3 ((kd.trans hk2).none.trans hk3) ?_
    rcases ho3 with q | ⟨c, q, hc⟩
    · exact .inl q
    · exact .inr ⟨c, q, by omega⟩
  refine ⟨⟨(Kp.refl _ _).below', key fun w2 hk2 t h => h⟩, key fun w2 hk2 t h => ⟨hk2.below', h⟩⟩
end
end Go.Proofs.Qxb6500896aGreatDoor
