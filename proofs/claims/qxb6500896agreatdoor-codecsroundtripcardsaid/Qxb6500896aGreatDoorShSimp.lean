/-
  Equations of the nice forms at constructors: for 'simp only'.
-/
import Derived.Test.Qxb6500896aGreatDoorShMem
namespace Go.Sh
open Go.RowKit
set_option linter.unusedVariables false
set_option linter.unusedSimpArgs false

section
variable {P : Program} {K : Value → World → Prop} {k : World → Prop} {w : World} {X : (Value → World → Prop) → World → Prop} {A B : Prop} {a b : Value} {q : IntKind} {m n : Int} {x y : Bool}

theorem e_fd {off bl o : Nat} : fd off (.pointer (some ⟨bl, o, none⟩)) K w = K (.pointer (some ⟨bl, o + off, none⟩)) w := by simp only [fd, add_mk]
theorem e_nck {ad : Addr} : nck (.pointer (some ad)) K w = K (.pointer (some ad)) w := rfl
theorem e_pkt : pk (.bool true) a b K w = K a w := rfl
theorem e_pkf : pk (.bool false) a b K w = K b w := rfl
theorem e_gdtt : gd (.bool true) true X K w = X K w := propext ⟨fun h => h.out, fun h => ⟨h⟩⟩
theorem e_gdtf : gd (.bool true) false X K w = K undef w := propext ⟨fun h => h.out, fun h => ⟨h⟩⟩
theorem e_gdft : gd (.bool false) true X K w = K undef w := propext ⟨fun h => h.out, fun h => ⟨h⟩⟩
theorem e_gdff : gd (.bool false) false X K w = X K w := propext ⟨fun h => h.out, fun h => ⟨h⟩⟩
theorem e_ift : ifb (.bool true) A B = A := rfl
theorem e_iff : ifb (.bool false) A B = B := rfl
theorem e_not : un .not (.bool x) K w = K (.bool (!x)) w := rfl
theorem e_ln {ad : Option Addr} {i c : Nat} : lnS (.slice ad i c) K w = K (.int .i64 i) w := rfl
theorem e_lnT {s : ByteArray} : lnT (.string s) K w = K (.int .i64 s.size) w := rfl
theorem e_cp {ad : Option Addr} {i c : Nat} : cpS (.slice ad i c) K w = K (.int .i64 c) w := rfl
theorem e_cvi {r : IntKind} : cvi r (.int q n) K w = K (.int r (r.wrap n)) w := rfl
theorem e_ex20 : exq (.tuple #[a, b]) 0 K w = K a w := rfl
theorem e_ex21 : exq (.tuple #[a, b]) 1 K w = K b w := rfl
theorem e_ex30 {c : Value} : exq (.tuple #[a, b, c]) 0 K w = K a w := rfl
theorem e_ex31 {c : Value} : exq (.tuple #[a, b, c]) 1 K w = K b w := rfl
theorem e_ex32 {c : Value} : exq (.tuple #[a, b, c]) 2 K w = K c w := rfl
theorem e_add : boI .add (.int q m) (.int q n) K w = K (.int q (q.wrap (m + n))) w := by simp [boI]
theorem e_sub : boI .sub (.int q m) (.int q n) K w = K (.int q (q.wrap (m - n))) w := by simp [boI]
theorem e_mul : boI .mul (.int q m) (.int q n) K w = K (.int q (q.wrap (m * n))) w := by simp [boI]
theorem e_quo : boI .quo (.int q m) (.int q n) K w = (n ≠ 0 ∧ K (.int q (q.wrap (m.tdiv n))) w) := by simp [boI]
theorem e_rem : boI .rem (.int q m) (.int q n) K w = (n ≠ 0 ∧ K (.int q (m.tmod n)) w) := by simp [boI]
theorem e_and : boI .and (.int q m) (.int q n) K w = K (.int q (q.wrap (BitVec.ofInt q.bits m &&& BitVec.ofInt q.bits n).toNat)) w := by simp [boI]
theorem e_or : boI .or (.int q m) (.int q n) K w = K (.int q (q.wrap (BitVec.ofInt q.bits m ||| BitVec.ofInt q.bits n).toNat)) w := by simp [boI]
theorem e_xor : boI .xor (.int q m) (.int q n) K w = K (.int q (q.wrap (BitVec.ofInt q.bits m ^^^ BitVec.ofInt q.bits n).toNat)) w := by simp [boI]
theorem e_shl {r : IntKind} : boI .shl (.int q m) (.int r n) K w = (0 ≤ n ∧ K (.int q (q.wrap (m * 2 ^ (min n.toNat q.bits)))) w) := rfl
theorem e_shr {r : IntKind} : boI .shr (.int q m) (.int r n) K w = (0 ≤ n ∧ K (.int q (m.fdiv (2 ^ (min n.toNat q.bits)))) w) := rfl
theorem e_eql : boI .eql (.int q m) (.int q n) K w = K (.bool (m == n)) w := by simp [boI]
theorem e_neq : boI .neq (.int q m) (.int q n) K w = K (.bool (m != n)) w := by simp [boI]
theorem e_lss : boI .lss (.int q m) (.int q n) K w = K (.bool (decide (m < n))) w := by simp [boI]
theorem e_leq : boI .leq (.int q m) (.int q n) K w = K (.bool (decide (m ≤ n))) w := by simp [boI]
theorem e_gtr : boI .gtr (.int q m) (.int q n) K w = K (.bool (decide (n < m))) w := by simp [boI]
theorem e_geq : boI .geq (.int q m) (.int q n) K w = K (.bool (decide (n ≤ m))) w := by simp [boI]
theorem e_beq : boB .eql (.bool x) (.bool y) K w = K (.bool (x == y)) w := rfl
theorem e_bne : boB .neq (.bool x) (.bool y) K w = K (.bool (!(x == y))) w := rfl
theorem e_peq1 : boP .eql (.pointer none) (.pointer none) K w = K (.bool true) w := rfl
theorem e_peq2 {ad : Addr} : boP .eql (.pointer (some ad)) (.pointer none) K w = K (.bool false) w := rfl
theorem e_pne1 : boP .neq (.pointer none) (.pointer none) K w = K (.bool false) w := rfl
theorem e_pne2 {ad : Addr} : boP .neq (.pointer (some ad)) (.pointer none) K w = K (.bool true) w := rfl
theorem e_zeq1 {i j c d : Nat} : boZ .eql (.slice none i c) (.slice none j d) K w = K (.bool true) w := rfl
theorem e_zeq2 {ad : Addr} {i j c d : Nat} : boZ .eql (.slice (some ad) i c) (.slice none j d) K w = K (.bool false) w := rfl
theorem e_zne1 {i j c d : Nat} : boZ .neq (.slice none i c) (.slice none j d) K w = K (.bool false) w := rfl
theorem e_zne2 {ad : Addr} {i j c d : Nat} : boZ .neq (.slice (some ad) i c) (.slice none j d) K w = K (.bool true) w := rfl
theorem e_feq1 : boF P true .eql .nilIface .nilIface K w = K (.bool true) w := by simp [boF]
theorem e_fne1 : boF P true .neq .nilIface .nilIface K w = K (.bool false) w := by simp [boF]
theorem e_feq2 {c : Bool} {t : TypeId} : boF P c .eql (.iface t a) .nilIface K w = K (.bool false) w := rfl
theorem e_fne2 {c : Bool} {t : TypeId} : boF P c .neq (.iface t a) .nilIface K w = K (.bool true) w := rfl
theorem boF_s {c : Bool} {t : TypeId} {r s : ByteArray} (h1 : P.underlying t = some .string) (h2 : (P.info? t).map (·.comparable) = some true) (hK : K (.bool (r == s)) w) : boF P c .eql (.iface t (.string r)) (.iface t (.string s)) K w := by
  show boE P t t (.string r) (.string s) (fun b => K (.bool b) w)
  unfold boE
  rw [if_pos rfl]
  exact ⟨⟨h1, h2⟩, hK⟩
theorem boF_sn {c : Bool} {t : TypeId} {r s : ByteArray} (h1 : P.underlying t = some .string) (h2 : (P.info? t).map (·.comparable) = some true) (hK : K (.bool (!(r == s))) w) : boF P c .neq (.iface t (.string r)) (.iface t (.string s)) K w := by
  show boE P t t (.string r) (.string s) (fun b => K (.bool (!b)) w)
  unfold boE
  rw [if_pos rfl]
  exact ⟨⟨h1, h2⟩, hK⟩
theorem boF_pn {c : Bool} {t te : TypeId} {a : Addr} (h1 : P.underlying t = some (.pointer te)) (h3 : (P.info? te).isSome = true) (h2 : (P.info? t).map (·.comparable) = some true) (hK : K (.bool false) w) : boF P c .neq (.iface t (.pointer (some a))) (.iface t (.pointer (some a))) K w := by
  show boE P t t (.pointer (some a)) (.pointer (some a)) (fun b => K (.bool (!b)) w)
  unfold boE
  rw [if_pos rfl]
  exact ⟨⟨te, h1, h3, h2, rfl⟩, hK⟩
theorem e_seq {s t : ByteArray} : boS .eql (.string s) (.string t) K w = K (.bool (s.toList == t.toList)) w := rfl
theorem e_sne {s t : ByteArray} : boS .neq (.string s) (.string t) K w = K (.bool (!(s.toList == t.toList))) w := rfl
theorem e_ta1 {u : TypeId} {z : Value} : taq u z true (.iface u a) K w = K (.tuple #[a, .bool true]) w := by simp [taq]
theorem e_ta2 {u : TypeId} {z : Value} : taq u z true .nilIface K w = K (.tuple #[z, .bool false]) w := by simp [taq]
end

/-! building -/
theorem fillL_nil (z : List Value) : fillL z [] = some z := rfl
theorem fillL_one (z : List Value) (off : Nat) (v : Value) (r : List (Option (Nat × Nat) × Value)) (hv : scal v = true) (ho : off < z.length) :
    fillL z ((some (off, 1), v) :: r) = fillL (z.set off v) r := by
  have e : v.cells.toList = [v] := by rw [scal_cells hv]
  simp only [fillL, e]
  have h1 : Nat.beq [v].length 1 = true := rfl
  have h2 : Nat.ble (off + 1) z.length = true := by rw [Nat.ble_eq]; exact ho
  rw [h1, h2]
  simp only [Bool.and_self, cond_true]
  congr 1
  rw [List.set_eq_take_append_cons_drop, if_pos ho]
  rfl
theorem fillL_agg (z : List Value) (off size : Nat) (cs : List Value) (r : List (Option (Nat × Nat) × Value)) (hl : cs.length = size) (ho : off + size ≤ z.length) :
    fillL z ((some (off, size), .agg cs.toArray) :: r) = fillL (z.take off ++ (cs ++ z.drop (off + size))) r := by
  have e : (Value.agg cs.toArray).cells.toList = cs := rfl
  have h2 : Nat.ble (off + size) z.length = true := by rw [Nat.ble_eq]; exact ho
  simp only [fillL, e, hl, Nat.beq_refl, h2, Bool.and_self, cond_true]
theorem bdq_r {z l : List Value} {ps : List (Option (Nat × Nat) × Value)} {K : Value → World → Prop} {w : World} (h : fillL z ps = some l) (hk : K (.agg l.toArray) w) : bdq z ps K w := by
  refine ⟨?_⟩; rw [h]; exact hk
theorem bsq_r {e : TypeId} {n : Nat} {z l : List Value} {ps : List (Option (Nat × Nat) × Value)} {K : Value → World → Prop} {w : World} (h : fillL (zrep z (n * z.length)) ps = some l)
    (hk : ∀ w1, Row w1 w.heap.size e l → Kp (fun _ => False) w w1 → w1.heap.size = w.heap.size + 1 → K (.slice (some ⟨w.heap.size, 0, none⟩) n n) w1) : bsq e z n ps K w := by
  refine ⟨?_⟩; rw [h]; exact hk _ (Row.new w e l) (kp_alloc _) (by simp)
theorem mks_r {e : TypeId} {v : Value} {by_ : Nat} {q r : IntKind} {n : Nat} {K : Value → World → Prop} {w : World} (hb : by_ * n ≤ 281474976710656) (hn : n ≤ 9223372036854775807)
    (hk : ∀ w1, Row w1 w.heap.size e (List.replicate n v) → Kp (fun _ => False) w w1 → w1.heap.size = w.heap.size + 1 → K (.slice (some ⟨w.heap.size, 0, none⟩) n n) w1) : mks e [v] by_ (.int q n) (.int r n) K w := by
  refine ⟨⟨by omega, by omega, ?_, by omega⟩, ?_⟩
  · have : ((by_ * n : Nat) : Int) ≤ 281474976710656 := by omega
    simpa using this
  · have e1 : ((n : Int)).toNat = n := by omega
    simp only [e1, List.length_cons, List.length_nil, Nat.zero_add, Nat.mul_one, zrep_one]
    exact hk _ (Row.new w e _) (kp_alloc _) (by simp)

/-! wraps -/
theorem wrap64_id {n : Int} (h0 : -9223372036854775808 ≤ n) (h : n ≤ 9223372036854775807) : IntKind.i64.wrap n = n := by
  have e : (2 ^ IntKind.i64.bits : Int) = 18446744073709551616 := by decide
  have e' : (2 ^ (IntKind.i64.bits - 1) : Int) = 9223372036854775808 := by decide
  unfold IntKind.wrap
  rw [e, e']
  simp only [IntKind.signed, Bool.true_and]
  split <;> rename_i h1 <;> simp only [decide_eq_true_eq] at h1 <;> omega
theorem wrap32_id {n : Int} (h0 : -2147483648 ≤ n) (h : n ≤ 2147483647) : IntKind.i32.wrap n = n := by
  have e : (2 ^ IntKind.i32.bits : Int) = 4294967296 := by decide
  have e' : (2 ^ (IntKind.i32.bits - 1) : Int) = 2147483648 := by decide
  unfold IntKind.wrap
  rw [e, e']
  simp only [IntKind.signed, Bool.true_and]
  split <;> rename_i h1 <;> simp only [decide_eq_true_eq] at h1 <;> omega
theorem wrap8_id {n : Int} (h0 : 0 ≤ n) (h : n ≤ 255) : IntKind.u8.wrap n = n := by
  have e : (2 ^ IntKind.u8.bits : Int) = 256 := by decide
  unfold IntKind.wrap
  rw [e]
  simp only [IntKind.signed, Bool.false_and]
  rw [if_neg (by simp)]
  omega

end Go.Sh
