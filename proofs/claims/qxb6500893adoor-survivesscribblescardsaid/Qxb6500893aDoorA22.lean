import Derived.Test.Qxb6500893aDoorA21
namespace Go.Proofs.Qxb6500893aDoor
open Go.Sh Go.RowKit
set_option linter.unusedVariables false
set_option linter.unusedSimpArgs false

/-! ### bits -/
theorem shrL {a : Nat} {n : Int} {k : Nat} (hn : n = (k : Int)) (hk : k ≤ 64) : ((a : Nat) : Int).fdiv (2 ^ (min n.toNat IntKind.u64.bits)) = ((a / 2 ^ k : Nat) : Int) := by
  have e : IntKind.u64.bits = 64 := rfl
  rw [hn, e, Int.toNat_natCast, Nat.min_eq_left hk, Int.fdiv_eq_ediv_of_nonneg _ (Int.le_of_lt (Int.pow_pos (by decide)))]
  simp
def pc1 (x : Nat) : Nat := ((x / 2 ^ 1) &&& 6148914691236517205) + (x &&& 6148914691236517205)
def pc2 (x : Nat) : Nat := ((x / 2 ^ 2) &&& 3689348814741910323) + (x &&& 3689348814741910323)
def pc3 (x : Nat) : Nat := (x / 2 ^ 4 + x) &&& 1085102592571150095
def pc4 (x : Nat) : Nat := x + x / 2 ^ 8
def pc5 (x : Nat) : Nat := x + x / 2 ^ 16
def pc6 (x : Nat) : Nat := x + x / 2 ^ 32
def pcF (x : Nat) : Nat := pc6 (pc5 (pc4 (pc3 (pc2 (pc1 x))))) % 128
theorem pcF_le (x : Nat) : pcF x ≤ 127 := by unfold pcF; omega
section
variable {w w' : World} {K : Value → World → Prop} {ab p sb so tb pb : Nat} {M : Am} {A : Ar} {sh : Shp} {T : Tb}
theorem and63 {a : Nat} (ha : a < 9223372036854775808) : IntKind.i64.wrap (((BitVec.ofInt IntKind.i64.bits (a : Int) &&& BitVec.ofInt IntKind.i64.bits 127).toNat : Nat) : Int) = ((a % 128 : Nat) : Int) := by
  have e : IntKind.i64.bits = 64 := rfl
  have e1 : (BitVec.ofInt IntKind.i64.bits (a : Int)).toNat = a := by rw [BitVec.toNat_ofInt, e]; omega
  have e2 : (BitVec.ofInt IntKind.i64.bits 127).toNat = 127 := by rw [BitVec.toNat_ofInt, e]; decide
  rw [BitVec.toNat_and, e1, e2, show (127 : Nat) = 2 ^ 7 - 1 by decide, Nat.and_two_pow_sub_one_eq_mod]
  exact wrap64_id (by omega) (by omega)
theorem ones_ok {x : Nat} (hx : x < 18446744073709551616) (hK : K (I (pcF x : Nat)) w) : cl Tryd.prog 61 #[U64 x] K w := by
  have b1 : pc1 x ≤ 12297829382473034410 := by
    unfold pc1
    have h1 : (x / 2 ^ 1) &&& 6148914691236517205 ≤ 6148914691236517205 := Nat.and_le_right
    have h2 : x &&& 6148914691236517205 ≤ 6148914691236517205 := Nat.and_le_right
    omega
  have b2 : pc2 (pc1 x) ≤ 7378697629483820646 := by
    unfold pc2
    have h1 : (pc1 x / 2 ^ 2) &&& 3689348814741910323 ≤ 3689348814741910323 := Nat.and_le_right
    have h2 : pc1 x &&& 3689348814741910323 ≤ 3689348814741910323 := Nat.and_le_right
    omega
  have b3 : pc3 (pc2 (pc1 x)) ≤ 1085102592571150095 := Nat.and_le_right
  have b4 : pc4 (pc3 (pc2 (pc1 x))) ≤ 1095000000000000000 := by unfold pc4; omega
  have b5 : pc5 (pc4 (pc3 (pc2 (pc1 x)))) ≤ 1096000000000000000 := by unfold pc5; omega
  have b6 : pc6 (pc5 (pc4 (pc3 (pc2 (pc1 x))))) ≤ 1097000000000000000 := by unfold pc6; omega
  apply c61
  unfold s61_p1
  rw [e_shr, shrL (n := 1) (k := 1) rfl (by decide)]
  refine ⟨by decide, ?_⟩
  have h1 : x / 2 ^ 1 < 18446744073709551616 := by omega
  rw [e_and, show (6148914691236517205 : Int) = ((6148914691236517205 : Nat) : Int) from rfl, and64 h1 (by decide), e_and, and64 hx (by decide), e_add]
  rw [show (((x / 2 ^ 1) &&& 6148914691236517205 : Nat) : Int) + ((x &&& 6148914691236517205 : Nat) : Int) = ((pc1 x : Nat) : Int) by unfold pc1; omega, w64 (by omega)]
  unfold pcF at hK
  generalize pc1 x = x1 at *
  rw [e_shr, shrL (n := 2) (k := 2) rfl (by decide)]
  refine ⟨by decide, ?_⟩
  have h2 : x1 / 2 ^ 2 < 18446744073709551616 := by omega
  rw [e_and, show (3689348814741910323 : Int) = ((3689348814741910323 : Nat) : Int) from rfl, and64 h2 (by decide), e_and, and64 (by omega) (by decide), e_add]
  rw [show (((x1 / 2 ^ 2) &&& 3689348814741910323 : Nat) : Int) + ((x1 &&& 3689348814741910323 : Nat) : Int) = ((pc2 x1 : Nat) : Int) by unfold pc2; omega, w64 (by omega)]
  generalize pc2 x1 = x2 at *
  rw [e_shr, shrL (n := 4) (k := 4) rfl (by decide)]
  refine ⟨by decide, ?_⟩
  rw [e_add, show ((x2 / 2 ^ 4 : Nat) : Int) + ((x2 : Nat) : Int) = ((x2 / 2 ^ 4 + x2 : Nat) : Int) by omega, w64 (by omega), e_and, show (1085102592571150095 : Int) = ((1085102592571150095 : Nat) : Int) from rfl, and64 (by omega) (by decide)]
  rw [show (x2 / 2 ^ 4 + x2) &&& 1085102592571150095 = pc3 x2 from rfl]
  generalize pc3 x2 = x3 at *
  rw [e_shr, shrL (n := 8) (k := 8) rfl (by decide)]
  refine ⟨by decide, ?_⟩
  rw [e_add, show ((x3 : Nat) : Int) + ((x3 / 2 ^ 8 : Nat) : Int) = ((pc4 x3 : Nat) : Int) by unfold pc4; omega, w64 (by omega)]
  generalize pc4 x3 = x4 at *
  rw [e_shr, shrL (n := 16) (k := 16) rfl (by decide)]
  refine ⟨by decide, ?_⟩
  rw [e_add, show ((x4 : Nat) : Int) + ((x4 / 2 ^ 16 : Nat) : Int) = ((pc5 x4 : Nat) : Int) by unfold pc5; omega, w64 (by omega)]
  generalize pc5 x4 = x5 at *
  rw [e_shr, shrL (n := 32) (k := 32) rfl (by decide)]
  refine ⟨by decide, ?_⟩
  rw [e_add, show ((x5 : Nat) : Int) + ((x5 / 2 ^ 32 : Nat) : Int) = ((pc6 x5 : Nat) : Int) by unfold pc6; omega, w64 (by omega)]
  rw [e_cvi, wrap64_id (by omega) (by omega), e_and, and63 (by omega)]
  exact hK
end
/-! ### the count of bits -/
def cb : Nat → Nat → Nat
  | 0, _ => 0
  | n + 1, x => x % 2 + cb n (x / 2)
def rep (b : Nat) : Nat → Nat
  | 0 => 0
  | n + 1 => b + 256 * rep b n
theorem and_split {a b c d : Nat} (ha : a < 256) (hb : b < 256) : (a + 256 * c) &&& (b + 256 * d) = (a &&& b) + 256 * (c &&& d) := by
  have h1 : ((a + 256 * c) &&& (b + 256 * d)) % 2 ^ 8 = ((a + 256 * c) % 2 ^ 8) &&& ((b + 256 * d) % 2 ^ 8) := Nat.and_mod_two_pow
  have h2 : ((a + 256 * c) &&& (b + 256 * d)) / 2 ^ 8 = ((a + 256 * c) / 2 ^ 8) &&& ((b + 256 * d) / 2 ^ 8) := Nat.and_div_two_pow
  rw [show (a + 256 * c) % 2 ^ 8 = a by omega, show (b + 256 * d) % 2 ^ 8 = b by omega] at h1
  rw [show (a + 256 * c) / 2 ^ 8 = c by omega, show (b + 256 * d) / 2 ^ 8 = d by omega] at h2
  omega
theorem and_low {a e m k : Nat} (hm : m < 2 ^ k) : (a + 2 ^ k * e) &&& m = (a % 2 ^ k) &&& m := by
  have h1 : ((a + 2 ^ k * e) &&& m) % 2 ^ k = ((a + 2 ^ k * e) % 2 ^ k) &&& (m % 2 ^ k) := Nat.and_mod_two_pow
  have h2 : (a + 2 ^ k * e) &&& m ≤ m := Nat.and_le_right
  rw [Nat.mod_eq_of_lt (Nat.lt_of_le_of_lt h2 hm), Nat.mod_eq_of_lt hm, Nat.add_mul_mod_self_left] at h1
  exact h1
def n1 (M x : Nat) : Nat := ((x / 2 ^ 1) &&& M) + (x &&& M)
def n2 (M x : Nat) : Nat := ((x / 2 ^ 2) &&& M) + (x &&& M)
def n3 (M x : Nat) : Nat := (x / 2 ^ 4 + x) &&& M
theorem n1_split {r q M : Nat} (hr : r < 256) : n1 (85 + 256 * M) (r + 256 * q) = n1 85 r + 256 * n1 M q := by
  unfold n1
  rw [and_split hr (by decide), show (r + 256 * q) / 2 ^ 1 = (r / 2 + 2 ^ 7 * (q % 2)) + 256 * (q / 2) by omega, and_split (by omega) (by decide), and_low (by decide), show r / 2 % 2 ^ 7 = r / 2 ^ 1 by omega, show q / 2 = q / 2 ^ 1 by omega]
  omega
theorem n2_split {r q M : Nat} (hr : r < 256) : n2 (51 + 256 * M) (r + 256 * q) = n2 51 r + 256 * n2 M q := by
  unfold n2
  rw [and_split hr (by decide), show (r + 256 * q) / 2 ^ 2 = (r / 4 + 2 ^ 6 * (q % 4)) + 256 * (q / 4) by omega, and_split (by omega) (by decide), and_low (by decide), show r / 4 % 2 ^ 6 = r / 2 ^ 2 by omega, show q / 4 = q / 2 ^ 2 by omega]
  omega
theorem n3_split {r q M : Nat} (hr : r ≤ 68) (hq : q % 16 ≤ 4) : n3 (15 + 256 * M) (r + 256 * q) = n3 15 r + 256 * n3 M q := by
  unfold n3
  rw [show (r + 256 * q) / 2 ^ 4 + (r + 256 * q) = ((r / 2 ^ 4 + r) + 2 ^ 4 * (q % 16)) + 256 * (q / 2 ^ 4 + q) by omega, and_split (by omega) (by decide), and_low (by decide)]
  have : (r / 2 ^ 4 + r) % 2 ^ 4 &&& 15 = r / 2 ^ 4 + r &&& 15 := by
    have h := and_low (a := r / 2 ^ 4 + r) (e := 0) (m := 15) (k := 4) (by decide)
    rw [Nat.mul_zero, Nat.add_zero] at h
    exact h.symm
  rw [this]
theorem byte_ok : ∀ r, r < 256 → n1 85 r < 256 ∧ n2 51 (n1 85 r) ≤ 68 ∧ n2 51 (n1 85 r) % 16 ≤ 4 ∧ n3 15 (n2 51 (n1 85 r)) = cb 8 r ∧ cb 8 r ≤ 8 := by decide +kernel
def tn (n x : Nat) : Nat := n3 (rep 15 n) (n2 (rep 51 n) (n1 (rep 85 n) x))
theorem n2_low : ∀ n x, n2 (rep 51 n) (n1 (rep 85 n) x) % 16 ≤ 4
  | 0, x => by simp [rep, n2]
  | n + 1, x => by
    have hx : x = x % 256 + 256 * (x / 256) := by omega
    have hr : x % 256 < 256 := by omega
    obtain ⟨h1, h2, h3, _⟩ := byte_ok _ hr
    rw [hx]
    show n2 (51 + 256 * rep 51 n) (n1 (85 + 256 * rep 85 n) _) % 16 ≤ 4
    rw [n1_split hr, n2_split h1]
    omega
theorem tn_split {n r q : Nat} (hr : r < 256) : tn (n + 1) (r + 256 * q) = cb 8 r + 256 * tn n q := by
  obtain ⟨h1, h2, h3, h4, _⟩ := byte_ok _ hr
  unfold tn
  show n3 (15 + 256 * rep 15 n) (n2 (51 + 256 * rep 51 n) (n1 (85 + 256 * rep 85 n) _)) = _
  rw [n1_split hr, n2_split h1, n3_split h2 (n2_low n q), h4]
theorem cb_split {n r q : Nat} (hr : r < 256) : cb (n + 8) (r + 256 * q) = cb 8 r + cb n q := by
  have e : cb (n + 8) (r + 256 * q) = (r + 256 * q) % 2 + ((r + 256 * q) / 2 % 2 + ((r + 256 * q) / 2 / 2 % 2 + ((r + 256 * q) / 2 / 2 / 2 % 2 + ((r + 256 * q) / 2 / 2 / 2 / 2 % 2 + ((r + 256 * q) / 2 / 2 / 2 / 2 / 2 % 2 + ((r + 256 * q) / 2 / 2 / 2 / 2 / 2 / 2 % 2 + ((r + 256 * q) / 2 / 2 / 2 / 2 / 2 / 2 / 2 % 2 + cb n ((r + 256 * q) / 2 / 2 / 2 / 2 / 2 / 2 / 2 / 2)))))))) := rfl
  have e8 : cb 8 r = r % 2 + (r / 2 % 2 + (r / 2 / 2 % 2 + (r / 2 / 2 / 2 % 2 + (r / 2 / 2 / 2 / 2 % 2 + (r / 2 / 2 / 2 / 2 / 2 % 2 + (r / 2 / 2 / 2 / 2 / 2 / 2 % 2 + (r / 2 / 2 / 2 / 2 / 2 / 2 / 2 % 2 + 0))))))) := rfl
  have eq : (r + 256 * q) / 2 / 2 / 2 / 2 / 2 / 2 / 2 / 2 = q := by omega
  rw [e, e8, eq]
  omega
theorem div_of {z lo hi k : Nat} (e : z = lo + k * hi) (h : lo < k) : z / k = hi := by
  subst e
  rw [Nat.add_mul_div_left _ _ (by omega), Nat.div_eq_of_lt h, Nat.zero_add]
theorem mod_of {z lo hi k : Nat} (e : z = lo + k * hi) (h : lo < k) : z % k = lo := by
  subst e
  rw [Nat.add_mul_mod_self_left, Nat.mod_eq_of_lt h]
theorem fin8 {y0 y1 y2 y3 y4 y5 y6 y7 : Nat} (b0 : y0 ≤ 8) (b1 : y1 ≤ 8) (b2 : y2 ≤ 8) (b3 : y3 ≤ 8) (b4 : y4 ≤ 8) (b5 : y5 ≤ 8) (b6 : y6 ≤ 8) (b7 : y7 ≤ 8) :
    pc6 (pc5 (pc4 (y0 + 256 * (y1 + 256 * (y2 + 256 * (y3 + 256 * (y4 + 256 * (y5 + 256 * (y6 + 256 * (y7 + 256 * 0)))))))))) % 128 = y0 + (y1 + (y2 + (y3 + (y4 + (y5 + (y6 + y7)))))) := by
  have e7 : y7 + 256 * 0 = y7 := by omega
  rw [e7]
  obtain ⟨Z6, h6⟩ : ∃ z, z = y6 + 256 * y7 := ⟨_, rfl⟩
  rw [← h6]
  obtain ⟨Z5, h5⟩ : ∃ z, z = y5 + 256 * Z6 := ⟨_, rfl⟩
  rw [← h5]
  obtain ⟨Z4, h4⟩ : ∃ z, z = y4 + 256 * Z5 := ⟨_, rfl⟩
  rw [← h4]
  obtain ⟨Z3, h3⟩ : ∃ z, z = y3 + 256 * Z4 := ⟨_, rfl⟩
  rw [← h3]
  obtain ⟨Z2, h2⟩ : ∃ z, z = y2 + 256 * Z3 := ⟨_, rfl⟩
  rw [← h2]
  obtain ⟨Z1, h1⟩ : ∃ z, z = y1 + 256 * Z2 := ⟨_, rfl⟩
  rw [← h1]
  obtain ⟨Z0, h0⟩ : ∃ z, z = y0 + 256 * Z1 := ⟨_, rfl⟩
  rw [← h0]
  have q1 : Z0 / 2 ^ 8 = Z1 := div_of (lo := y0) (by omega) (by omega)
  have s0 : Z0 = (y0 + 256 * y1) + 2 ^ 16 * Z2 := by omega
  have s1 : Z1 = (y1 + 256 * y2) + 2 ^ 16 * Z3 := by omega
  have s2 : Z2 = (y2 + 256 * y3) + 2 ^ 16 * Z4 := by omega
  have s3 : Z3 = (y3 + 256 * y4) + 2 ^ 16 * Z5 := by omega
  have s4 : Z4 = (y4 + 256 * y5) + 2 ^ 16 * Z6 := by omega
  have s5 : Z5 = (y5 + 256 * y6) + 2 ^ 16 * y7 := by omega
  have q2 : (Z0 + Z1) / 2 ^ 16 = Z2 + Z3 := div_of (lo := (y0 + y1) + 256 * (y1 + y2)) (by rw [s0, s1]; omega) (by omega)
  have r0 : Z0 = (y0 + 256 * y1 + 65536 * (y2 + 256 * y3)) + 2 ^ 32 * Z4 := by rw [s0, s2]; omega
  have r1 : Z1 = (y1 + 256 * y2 + 65536 * (y3 + 256 * y4)) + 2 ^ 32 * Z5 := by rw [s1, s3]; omega
  have r2 : Z2 = (y2 + 256 * y3 + 65536 * (y4 + 256 * y5)) + 2 ^ 32 * Z6 := by rw [s2, s4]; omega
  have r3 : Z3 = (y3 + 256 * y4 + 65536 * (y5 + 256 * y6)) + 2 ^ 32 * y7 := by rw [s3, s5]; omega
  have q3 : (Z0 + Z1 + (Z2 + Z3)) / 2 ^ 32 = Z4 + Z5 + Z6 + y7 := by
    clear h0 h1 h2 h3 h4 h5 h6 s0 s1 s2 s3 s4 s5 q1 q2
    refine div_of (lo := (y0 + 256 * y1 + 65536 * (y2 + 256 * y3)) + (y1 + 256 * y2 + 65536 * (y3 + 256 * y4)) + (y2 + 256 * y3 + 65536 * (y4 + 256 * y5)) + (y3 + 256 * y4 + 65536 * (y5 + 256 * y6))) ?_ ?_
    · generalize y0 + 256 * y1 + 65536 * (y2 + 256 * y3) = u0 at *
      generalize y1 + 256 * y2 + 65536 * (y3 + 256 * y4) = u1 at *
      generalize y2 + 256 * y3 + 65536 * (y4 + 256 * y5) = u2 at *
      generalize y3 + 256 * y4 + 65536 * (y5 + 256 * y6) = u3 at *
      omega
    · omega
  unfold pc6 pc5 pc4
  rw [q1, q2, q3]
  clear q1 q2 q3 r0 r1 r2 r3 s0 s1 s2 s3 s4 s5
  refine mod_of (hi := 2 * (Z1 + Z2 + Z3 + Z4 + Z5 + Z6 + y7)) ?_ (by omega)
  omega
theorem pcF_ok {x : Nat} (hx : x < 18446744073709551616) : pcF x = cb 64 x := by
  have e : pcF x = pc6 (pc5 (pc4 (tn 8 x))) % 128 := rfl
  have sp : ∀ y : Nat, y = y % 256 + 256 * (y / 256) := fun y => by omega
  have lt : ∀ y : Nat, y % 256 < 256 := fun y => by omega
  have tns : ∀ n y, tn (n + 1) y = cb 8 (y % 256) + 256 * tn n (y / 256) := fun n y => by
    conv => lhs; rw [sp y]
    exact tn_split (lt y)
  have cbs : ∀ n y, cb (n + 8) y = cb 8 (y % 256) + cb n (y / 256) := fun n y => by
    conv => lhs; rw [sp y]
    exact cb_split (lt y)
  have t0 : ∀ y, tn 0 y = 0 := fun y => by simp [tn, rep, n3]
  have b := fun y => (byte_ok _ (lt y)).2.2.2.2
  rw [e, tns 7, tns 6, tns 5, tns 4, tns 3, tns 2, tns 1, tns 0, t0]
  have e7 : cb 8 (x / 256 / 256 / 256 / 256 / 256 / 256 / 256) = cb 8 (x / 256 / 256 / 256 / 256 / 256 / 256 / 256 % 256) := by
    rw [Nat.mod_eq_of_lt (by omega)]
  have ec : cb 64 x = cb 8 (x % 256) + (cb 8 (x / 256 % 256) + (cb 8 (x / 256 / 256 % 256) + (cb 8 (x / 256 / 256 / 256 % 256) + (cb 8 (x / 256 / 256 / 256 / 256 % 256) + (cb 8 (x / 256 / 256 / 256 / 256 / 256 % 256) + (cb 8 (x / 256 / 256 / 256 / 256 / 256 / 256 % 256) + cb 8 (x / 256 / 256 / 256 / 256 / 256 / 256 / 256))))))) := by
    rw [cbs 56 x, cbs 48 (x / 256), cbs 40 (x / 256 / 256), cbs 32 (x / 256 / 256 / 256), cbs 24 (x / 256 / 256 / 256 / 256), cbs 16 (x / 256 / 256 / 256 / 256 / 256), cbs 8 (x / 256 / 256 / 256 / 256 / 256 / 256)]
  rw [ec, e7]
  clear ec e7
  exact fin8 (b x) (b _) (b _) (b _) (b _) (b _) (b _) (b _)
end Go.Proofs.Qxb6500893aDoor
