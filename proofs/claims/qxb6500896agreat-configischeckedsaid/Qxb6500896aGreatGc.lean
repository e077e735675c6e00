import Derived.Test.Qxb6500896aGreatProg
import Derived.Test.Qxb6500896aGreatShMix3
namespace Go.Proofs.Qxb6500896aGreat
open Go.Sh Go.RowKit
set_option linter.unusedVariables false
set_option maxRecDepth 100000

/-! ### function 200 : (*e2e.bookingm.Table).find -/
def s200_R (K : Value → World → Prop) (s : Nat → Value) (w : World) : Prop := retv Tryz.prog s Tryz.f200.results.toList (fun vs => K (pack vs) w) w
def s200_p1 (K : Value → World → Prop) (t0 t1 : Value) (w : World) : Prop :=
  boI .lss t1 (.int .i64 1) (fun t6 w =>
  gd t6 false (fun K w => K t1 w) (fun t8 w =>
  gd t6 false (fun K w => K t0 w) (fun t9 w =>
  gd t6 false (nck t9) (fun t10 w =>
  gd t6 false (fd 14 t10) (fun t11 w =>
  gd t6 false (ld1 t11) (fun t12 w =>
  gd t6 false (lnS t12) (fun t13 w =>
  gd t6 false (boI .gtr t8 t13) (fun t14 w =>
  pk t6 (.bool true) t14 (fun t15 w =>
  ifb t15
  (K (.pointer none) w)
  (nck t0 (fun t17 w =>
  fd 14 t17 (fun t18 w =>
  ld1 t18 (fun t19 w =>
  boI .sub t1 (.int .i64 1) (fun t21 w =>
  ixs 7 t19 t21 (fun t22 w =>
  K t22 w) w) w) w) w) w)) w) w) w) w) w) w) w) w) w
def s200_p1_den (K : Value → World → Prop) : (Nat → Value) → World → Prop := denL Tryz.prog [(cd (Tryz.f200.body.getD .skip) [0]), (cd (Tryz.f200.body.getD .skip) [1, 0, 0]), (cd (Tryz.f200.body.getD .skip) [1, 0, 1]), (cd (Tryz.f200.body.getD .skip) [1, 1, 0]), (cd (Tryz.f200.body.getD .skip) [1, 1, 1])] (fun _ _ => False) (fun i => (fun _ _ => False)) (s200_R K)
theorem s200_p1_ok (K : Value → World → Prop) (s : Nat → Value) (w : World) (h : s200_p1 K (s 0) (s 1) w) : Tr (s200_p1_den K s w) :=
  tr_simple (P := Tryz.prog) (codes := [(cd (Tryz.f200.body.getD .skip) [0]), (cd (Tryz.f200.body.getD .skip) [1, 0, 0]), (cd (Tryz.f200.body.getD .skip) [1, 0, 1]), (cd (Tryz.f200.body.getD .skip) [1, 1, 0]), (cd (Tryz.f200.body.getD .skip) [1, 1, 1])]) (N := (fun _ _ => False)) (N' := (fun _ _ => False)) (X := (fun i => (fun _ _ => False))) (X' := (fun i => (fun _ _ => False))) (R := s200_R K) (s := s) (w := w) (p := s200_p1 K (s 0) (s 1) w) (q := s200_p1_den K s w) tr_id (fun i => tr_id) (by kernel_rfl) (by kernel_rfl) @h
/-- the call, from the text -/
theorem c200 (t0 t1 : Value) {K : Value → World → Prop} {w : World} (h : s200_p1 K t0 t1 w) : cl Tryz.prog 200 #[t0, t1] K w :=
  calls_of_tr (c := (Tryz.f200.body.getD .skip)) (fn := Tryz.f200) (q := s200_p1_den K (st0 #[t0, t1]) w) Tryz.func200 (by kernel_rfl) (by kernel_rfl) (Nat.le_of_ble_eq_true (by kernel_rfl)) (by kernel_rfl) (by kernel_rfl) (s200_p1_ok K (st0 #[t0, t1]) w @h)

/-! ### function 163 : (*e2e.bookingm.Table).Get -/
def s163_R (K : Value → World → Prop) (s : Nat → Value) (w : World) : Prop := retv Tryz.prog s Tryz.f163.results.toList (fun vs => K (pack vs) w) w
def s163_p1 (K : Value → World → Prop) (t0 t1 : Value) (w : World) : Prop :=
  nw 85 #[(.int .i64 0), (.int .i64 0), (.int .i64 0), (.int .i64 0), (.int .i64 0), (.int .i64 0), (.slice none 0 0)] (fun t4 w =>
  cl Tryz.prog 200 #[t0, t1] (fun t10 w =>
  boP .eql t10 (.pointer none) (fun t12 w =>
  ifb t12
  (bdq [(.int .i64 0), (.int .i64 0), (.int .i64 0), (.int .i64 0), (.int .i64 0), (.int .i64 0), (.slice none 0 0)] [] (fun t13 w =>
  stn 7 t4 t13 (fun w =>
  ldn 7 t4 (fun r0 _ =>
  K (.tuple #[r0, (.bool false)]) w) w) w) w)
  (nck t10 (fun t15 w =>
  ldn 7 t15 (fun t16 w =>
  nw 85 #[(.int .i64 0), (.int .i64 0), (.int .i64 0), (.int .i64 0), (.int .i64 0), (.int .i64 0), (.slice none 0 0)] (fun t7 w =>
  stn 7 t7 t16 (fun w =>
  bsq 88 [(.int .i64 0), (.int .i64 0)] 0 [] (fun t17 w =>
  nck t10 (fun t19 w =>
  fd 6 t19 (fun t20 w =>
  ld1 t20 (fun t21 w =>
  apq 88 [(.int .i64 0), (.int .i64 0)] 16 t17 t21 (fun t22 w =>
  fd 6 t7 (fun t23 w =>
  st1 t23 t22 (fun w =>
  ldn 7 t7 (fun t24 w =>
  stn 7 t4 t24 (fun w =>
  ldn 7 t4 (fun r0 _ =>
  K (.tuple #[r0, (.bool true)]) w) w) w) w) w) w) w) w) w) w) w) w) w) w) w)) w) w) w
def s163_p1_den (K : Value → World → Prop) : (Nat → Value) → World → Prop := denL Tryz.prog [(cd (Tryz.f163.body.getD .skip) [0]), (cd (Tryz.f163.body.getD .skip) [1, 0]), (cd (Tryz.f163.body.getD .skip) [1, 1, 0, 0]), (cd (Tryz.f163.body.getD .skip) [1, 1, 0, 1]), (cd (Tryz.f163.body.getD .skip) [1, 1, 1, 0]), (cd (Tryz.f163.body.getD .skip) [1, 1, 1, 1, 0]), (cd (Tryz.f163.body.getD .skip) [1, 1, 1, 1, 1, 0]), (cd (Tryz.f163.body.getD .skip) [1, 1, 1, 1, 1, 1])] (fun _ _ => False) (fun i => (fun _ _ => False)) (s163_R K)
theorem s163_p1_ok (K : Value → World → Prop) (s : Nat → Value) (w : World) (h : s163_p1 K (s 0) (s 1) w) : Tr (s163_p1_den K s w) :=
  tr_simple (P := Tryz.prog) (codes := [(cd (Tryz.f163.body.getD .skip) [0]), (cd (Tryz.f163.body.getD .skip) [1, 0]), (cd (Tryz.f163.body.getD .skip) [1, 1, 0, 0]), (cd (Tryz.f163.body.getD .skip) [1, 1, 0, 1]), (cd (Tryz.f163.body.getD .skip) [1, 1, 1, 0]), (cd (Tryz.f163.body.getD .skip) [1, 1, 1, 1, 0]), (cd (Tryz.f163.body.getD .skip) [1, 1, 1, 1, 1, 0]), (cd (Tryz.f163.body.getD .skip) [1, 1, 1, 1, 1, 1])]) (N := (fun _ _ => False)) (N' := (fun _ _ => False)) (X := (fun i => (fun _ _ => False))) (X' := (fun i => (fun _ _ => False))) (R := s163_R K) (s := s) (w := w) (p := s163_p1 K (s 0) (s 1) w) (q := s163_p1_den K s w) tr_id (fun i => tr_id) (by kernel_rfl) (by kernel_rfl) @h
/-- the call, from the text -/
theorem c163 (t0 t1 : Value) {K : Value → World → Prop} {w : World} (h : s163_p1 K t0 t1 w) : cl Tryz.prog 163 #[t0, t1] K w :=
  calls_of_tr (c := (Tryz.f163.body.getD .skip)) (fn := Tryz.f163) (q := s163_p1_den K (st0 #[t0, t1]) w) Tryz.func163 (by kernel_rfl) (by kernel_rfl) (Nat.le_of_ble_eq_true (by kernel_rfl)) (by kernel_rfl) (by kernel_rfl) (s163_p1_ok K (st0 #[t0, t1]) w @h)

/-! ### function 162 : (*e2e.bookingm.Table).Len -/
def s162_R (K : Value → World → Prop) (s : Nat → Value) (w : World) : Prop := retv Tryz.prog s Tryz.f162.results.toList (fun vs => K (pack vs) w) w
def s162_p1 (K : Value → World → Prop) (t0 : Value) (w : World) : Prop :=
  nck t0 (fun t4 w =>
  fd 14 t4 (fun t5 w =>
  ld1 t5 (fun t6 w =>
  lnS t6 (fun t7 w =>
  K t7 w) w) w) w) w
def s162_p1_den (K : Value → World → Prop) : (Nat → Value) → World → Prop := denL Tryz.prog [(cd (Tryz.f162.body.getD .skip) [0]), (cd (Tryz.f162.body.getD .skip) [1, 0]), (cd (Tryz.f162.body.getD .skip) [1, 1])] (fun _ _ => False) (fun i => (fun _ _ => False)) (s162_R K)
theorem s162_p1_ok (K : Value → World → Prop) (s : Nat → Value) (w : World) (h : s162_p1 K (s 0) w) : Tr (s162_p1_den K s w) :=
  tr_simple (P := Tryz.prog) (codes := [(cd (Tryz.f162.body.getD .skip) [0]), (cd (Tryz.f162.body.getD .skip) [1, 0]), (cd (Tryz.f162.body.getD .skip) [1, 1])]) (N := (fun _ _ => False)) (N' := (fun _ _ => False)) (X := (fun i => (fun _ _ => False))) (X' := (fun i => (fun _ _ => False))) (R := s162_R K) (s := s) (w := w) (p := s162_p1 K (s 0) w) (q := s162_p1_den K s w) tr_id (fun i => tr_id) (by kernel_rfl) (by kernel_rfl) @h
/-- the call, from the text -/
theorem c162 (t0 : Value) {K : Value → World → Prop} {w : World} (h : s162_p1 K t0 w) : cl Tryz.prog 162 #[t0] K w :=
  calls_of_tr (c := (Tryz.f162.body.getD .skip)) (fn := Tryz.f162) (q := s162_p1_den K (st0 #[t0]) w) Tryz.func162 (by kernel_rfl) (by kernel_rfl) (Nat.le_of_ble_eq_true (by kernel_rfl)) (by kernel_rfl) (by kernel_rfl) (s162_p1_ok K (st0 #[t0]) w @h)

/-! ### function 228 : (*e2e.bookingm.Table).inside -/
def s228_R (K : Value → World → Prop) (s : Nat → Value) (w : World) : Prop := retv Tryz.prog s Tryz.f228.results.toList (fun vs => K (pack vs) w) w
def s228_p1 (K : Value → World → Prop) (t9 : Value) (w : World) : Prop :=
  K t9 w
def s228_p1_den (K : Value → World → Prop) : (Nat → Value) → World → Prop := denL Tryz.prog [(cd (Tryz.f228.body.getD .skip) [1, 1, 1, 0]), (cd (Tryz.f228.body.getD .skip) [1, 1, 1, 1])] (fun _ _ => False) (fun i => (fun _ _ => False)) (s228_R K)
theorem s228_p1_ok (K : Value → World → Prop) (s : Nat → Value) (w : World) (h : s228_p1 K (s 9) w) : Tr (s228_p1_den K s w) :=
  tr_simple (P := Tryz.prog) (codes := [(cd (Tryz.f228.body.getD .skip) [1, 1, 1, 0]), (cd (Tryz.f228.body.getD .skip) [1, 1, 1, 1])]) (N := (fun _ _ => False)) (N' := (fun _ _ => False)) (X := (fun i => (fun _ _ => False))) (X' := (fun i => (fun _ _ => False))) (R := s228_R K) (s := s) (w := w) (p := s228_p1 K (s 9) w) (q := s228_p1_den K s w) tr_id (fun i => tr_id) (by kernel_rfl) (by kernel_rfl) @h
def s228_p2 (K : Value → World → Prop) (B1 : List Value → World → Prop) (t0 t1 t2 t3 t9 t17 t18 t19 : Value) (w : World) : Prop :=
  boI .add t19 (.int .i64 1) (fun t71 w =>
  B1 [t0, t1, t2, t3, t9, t17, t18, t71] w) w
def s228_p2_den (K : Value → World → Prop) (M1 : (Nat → Value) → World → Prop) : (Nat → Value) → World → Prop := denL Tryz.prog [(cd (Tryz.f228.body.getD .skip) [1, 1, 0, 1, 0, 0, 1, 1, 1])] M1 (fun i => (bif Nat.beq i 0 then (s228_p1_den K) else (fun _ _ => False))) (s228_R K)
theorem s228_p2_ok (K : Value → World → Prop) (B1 : List Value → World → Prop) (s : Nat → Value) (w : World) (h : s228_p2 K B1 (s 0) (s 1) (s 2) (s 3) (s 9) (s 17) (s 18) (s 19) w) : Tr (s228_p2_den K (fun s w => B1 [s 0, s 1, s 2, s 3, s 9, s 17, s 18, s 19] w) s w) :=
  tr_simple (P := Tryz.prog) (codes := [(cd (Tryz.f228.body.getD .skip) [1, 1, 0, 1, 0, 0, 1, 1, 1])]) (N := (fun s w => B1 [s 0, s 1, s 2, s 3, s 9, s 17, s 18, s 19] w)) (N' := (fun s w => B1 [s 0, s 1, s 2, s 3, s 9, s 17, s 18, s 19] w)) (X := (fun i => (bif Nat.beq i 0 then (fun s w => s228_p1 K (s 9) w) else (fun _ _ => False)))) (X' := (fun i => (bif Nat.beq i 0 then (s228_p1_den K) else (fun _ _ => False)))) (R := s228_R K) (s := s) (w := w) (p := s228_p2 K B1 (s 0) (s 1) (s 2) (s 3) (s 9) (s 17) (s 18) (s 19) w) (q := s228_p2_den K (fun s w => B1 [s 0, s 1, s 2, s 3, s 9, s 17, s 18, s 19] w) s w) tr_id (fun i => (tr_bif (fun s w h => s228_p1_ok K s w @h) tr_id)) (by kernel_rfl) (by kernel_rfl) @h
def s228_p3 (K : Value → World → Prop) (B1 : List Value → World → Prop) (B2 : List Value → World → Prop) (t0 t1 t2 t3 t9 t11 t17 t18 t19 t34 t35 t36 : Value) (w : World) : Prop :=
  boI .add t36 (.int .i64 1) (fun t70 w =>
  B2 [t0, t1, t2, t3, t9, t11, t17, t18, t19, t34, t35, t70] w) w
def s228_p3_den (K : Value → World → Prop) (M1 : (Nat → Value) → World → Prop) (M2 : (Nat → Value) → World → Prop) : (Nat → Value) → World → Prop := denL Tryz.prog [(cd (Tryz.f228.body.getD .skip) [1, 1, 0, 1, 0, 0, 1, 1, 0, 0, 1, 1, 1, 0, 0, 1, 1, 1])] M2 (fun i => (bif Nat.beq i 2 then (s228_p2_den K M1) else (bif Nat.beq i 1 then (s228_p2_den K M1) else (bif Nat.beq i 0 then (s228_p1_den K) else (fun _ _ => False))))) (s228_R K)
theorem s228_p3_ok (K : Value → World → Prop) (B1 : List Value → World → Prop) (B2 : List Value → World → Prop) (s : Nat → Value) (w : World) (h : s228_p3 K B1 B2 (s 0) (s 1) (s 2) (s 3) (s 9) (s 11) (s 17) (s 18) (s 19) (s 34) (s 35) (s 36) w) : Tr (s228_p3_den K (fun s w => B1 [s 0, s 1, s 2, s 3, s 9, s 17, s 18, s 19] w) (fun s w => B2 [s 0, s 1, s 2, s 3, s 9, s 11, s 17, s 18, s 19, s 34, s 35, s 36] w) s w) :=
  tr_simple (P := Tryz.prog) (codes := [(cd (Tryz.f228.body.getD .skip) [1, 1, 0, 1, 0, 0, 1, 1, 0, 0, 1, 1, 1, 0, 0, 1, 1, 1])]) (N := (fun s w => B2 [s 0, s 1, s 2, s 3, s 9, s 11, s 17, s 18, s 19, s 34, s 35, s 36] w)) (N' := (fun s w => B2 [s 0, s 1, s 2, s 3, s 9, s 11, s 17, s 18, s 19, s 34, s 35, s 36] w)) (X := (fun i => (bif Nat.beq i 2 then (fun s w => s228_p2 K B1 (s 0) (s 1) (s 2) (s 3) (s 9) (s 17) (s 18) (s 19) w) else (bif Nat.beq i 1 then (fun s w => s228_p2 K B1 (s 0) (s 1) (s 2) (s 3) (s 9) (s 17) (s 18) (s 19) w) else (bif Nat.beq i 0 then (fun s w => s228_p1 K (s 9) w) else (fun _ _ => False)))))) (X' := (fun i => (bif Nat.beq i 2 then (s228_p2_den K (fun s w => B1 [s 0, s 1, s 2, s 3, s 9, s 17, s 18, s 19] w)) else (bif Nat.beq i 1 then (s228_p2_den K (fun s w => B1 [s 0, s 1, s 2, s 3, s 9, s 17, s 18, s 19] w)) else (bif Nat.beq i 0 then (s228_p1_den K) else (fun _ _ => False)))))) (R := s228_R K) (s := s) (w := w) (p := s228_p3 K B1 B2 (s 0) (s 1) (s 2) (s 3) (s 9) (s 11) (s 17) (s 18) (s 19) (s 34) (s 35) (s 36) w) (q := s228_p3_den K (fun s w => B1 [s 0, s 1, s 2, s 3, s 9, s 17, s 18, s 19] w) (fun s w => B2 [s 0, s 1, s 2, s 3, s 9, s 11, s 17, s 18, s 19, s 34, s 35, s 36] w) s w) tr_id (fun i => (tr_bif (fun s w h => s228_p2_ok K B1 s w @h) (tr_bif (fun s w h => s228_p2_ok K B1 s w @h) (tr_bif (fun s w h => s228_p1_ok K s w @h) tr_id)))) (by kernel_rfl) (by kernel_rfl) @h
def s228_p4 (K : Value → World → Prop) (B1 : List Value → World → Prop) (B2 : List Value → World → Prop) (t0 t1 t2 t3 t9 t11 t17 t18 t19 t34 t35 t36 t65 : Value) (w : World) : Prop :=
  ifb t65
  (fd 3 t11 (fun t67 w =>
  ld1 t67 (fun t68 w =>
  boI .add t9 t68 (fun t69 w =>
  s228_p3 K B1 B2 t0 t1 t2 t3 t69 t11 t17 t18 t19 t34 t35 t36 w) w) w) w)
  (s228_p3 K B1 B2 t0 t1 t2 t3 t9 t11 t17 t18 t19 t34 t35 t36 w)
def s228_p4_den (K : Value → World → Prop) (M1 : (Nat → Value) → World → Prop) (M2 : (Nat → Value) → World → Prop) : (Nat → Value) → World → Prop := denL Tryz.prog [(cd (Tryz.f228.body.getD .skip) [1, 1, 0, 1, 0, 0, 1, 1, 0, 0, 1, 1, 1, 0, 0, 1, 1, 0, 0, 1, 1])] (s228_p3_den K M1 M2) (fun i => (bif Nat.beq i 3 then (s228_p3_den K M1 M2) else (bif Nat.beq i 2 then (s228_p2_den K M1) else (bif Nat.beq i 1 then (s228_p2_den K M1) else (bif Nat.beq i 0 then (s228_p1_den K) else (fun _ _ => False)))))) (s228_R K)
theorem s228_p4_ok (K : Value → World → Prop) (B1 : List Value → World → Prop) (B2 : List Value → World → Prop) (s : Nat → Value) (w : World) (h : s228_p4 K B1 B2 (s 0) (s 1) (s 2) (s 3) (s 9) (s 11) (s 17) (s 18) (s 19) (s 34) (s 35) (s 36) (s 65) w) : Tr (s228_p4_den K (fun s w => B1 [s 0, s 1, s 2, s 3, s 9, s 17, s 18, s 19] w) (fun s w => B2 [s 0, s 1, s 2, s 3, s 9, s 11, s 17, s 18, s 19, s 34, s 35, s 36] w) s w) :=
  tr_simple (P := Tryz.prog) (codes := [(cd (Tryz.f228.body.getD .skip) [1, 1, 0, 1, 0, 0, 1, 1, 0, 0, 1, 1, 1, 0, 0, 1, 1, 0, 0, 1, 1])]) (N := (fun s w => s228_p3 K B1 B2 (s 0) (s 1) (s 2) (s 3) (s 9) (s 11) (s 17) (s 18) (s 19) (s 34) (s 35) (s 36) w)) (N' := (s228_p3_den K (fun s w => B1 [s 0, s 1, s 2, s 3, s 9, s 17, s 18, s 19] w) (fun s w => B2 [s 0, s 1, s 2, s 3, s 9, s 11, s 17, s 18, s 19, s 34, s 35, s 36] w))) (X := (fun i => (bif Nat.beq i 3 then (fun s w => s228_p3 K B1 B2 (s 0) (s 1) (s 2) (s 3) (s 9) (s 11) (s 17) (s 18) (s 19) (s 34) (s 35) (s 36) w) else (bif Nat.beq i 2 then (fun s w => s228_p2 K B1 (s 0) (s 1) (s 2) (s 3) (s 9) (s 17) (s 18) (s 19) w) else (bif Nat.beq i 1 then (fun s w => s228_p2 K B1 (s 0) (s 1) (s 2) (s 3) (s 9) (s 17) (s 18) (s 19) w) else (bif Nat.beq i 0 then (fun s w => s228_p1 K (s 9) w) else (fun _ _ => False))))))) (X' := (fun i => (bif Nat.beq i 3 then (s228_p3_den K (fun s w => B1 [s 0, s 1, s 2, s 3, s 9, s 17, s 18, s 19] w) (fun s w => B2 [s 0, s 1, s 2, s 3, s 9, s 11, s 17, s 18, s 19, s 34, s 35, s 36] w)) else (bif Nat.beq i 2 then (s228_p2_den K (fun s w => B1 [s 0, s 1, s 2, s 3, s 9, s 17, s 18, s 19] w)) else (bif Nat.beq i 1 then (s228_p2_den K (fun s w => B1 [s 0, s 1, s 2, s 3, s 9, s 17, s 18, s 19] w)) else (bif Nat.beq i 0 then (s228_p1_den K) else (fun _ _ => False))))))) (R := s228_R K) (s := s) (w := w) (p := s228_p4 K B1 B2 (s 0) (s 1) (s 2) (s 3) (s 9) (s 11) (s 17) (s 18) (s 19) (s 34) (s 35) (s 36) (s 65) w) (q := s228_p4_den K (fun s w => B1 [s 0, s 1, s 2, s 3, s 9, s 17, s 18, s 19] w) (fun s w => B2 [s 0, s 1, s 2, s 3, s 9, s 11, s 17, s 18, s 19, s 34, s 35, s 36] w) s w) (fun s w h => s228_p3_ok K B1 B2 s w @h) (fun i => (tr_bif (fun s w h => s228_p3_ok K B1 B2 s w @h) (tr_bif (fun s w h => s228_p2_ok K B1 s w @h) (tr_bif (fun s w h => s228_p2_ok K B1 s w @h) (tr_bif (fun s w h => s228_p1_ok K s w @h) tr_id))))) (by kernel_rfl) (by kernel_rfl) @h
def s228_p5_d (K : Value → World → Prop) (B1 : List Value → World → Prop) (B2 : List Value → World → Prop) (t0 t1 t2 t3 t9 t11 t13 t17 t18 t19 t34 t35 t36 : Value) (w0 w : World) : Prop :=
  fd 0 t13 (fun t40 _ =>
  ld1 t40 (fun t41 _ =>
  boI .eql t41 t1 (fun t43 _ =>
  gd t43 true (fd 1 t13) (fun t45 _ =>
  gd t43 true (ld1 t45) (fun t46 _ =>
  gd t43 true (fun K w => K t2 w) (fun t47 _ =>
  gd t43 true (boI .leq t46 t47) (fun t48 _ =>
  pk t43 t48 (.bool false) (fun t49 _ =>
  gd t49 true (fun K w => K t2 w) (fun t51 _ =>
  gd t49 true (fd 1 t13) (fun t52 _ =>
  gd t49 true (ld1 t52) (fun t53 _ =>
  gd t49 true (fun K w => K t0 w) (fun t54 _ =>
  gd t49 true (nck t54) (fun t55 _ =>
  gd t49 true (fd 0 t55) (fun t56 _ =>
  gd t49 true (fd 0 t56) (fun t57 _ =>
  gd t49 true (ld1 t57) (fun t58 _ =>
  gd t49 true (fun K w => K t1 w) (fun t59 _ =>
  gd t49 true (ixs 5 t58 t59) (fun t60 _ =>
  gd t49 true (fd 1 t60) (fun t61 _ =>
  gd t49 true (ld1 t61) (fun t62 _ =>
  gd t49 true (boI .add t53 t62) (fun t63 _ =>
  gd t49 true (boI .lss t51 t63) (fun t64 _ =>
  pk t49 t64 (.bool false) (fun t65 _ =>
  s228_p4 K B1 B2 t0 t1 t2 t3 t9 t11 t17 t18 t19 t34 t35 t36 t65 w) w0) w0) w0) w0) w0) w0) w0) w0) w0) w0) w0) w0) w0) w0) w0) w0) w0) w0) w0) w0) w0) w0) w0
def s228_p5 (K : Value → World → Prop) (B1 : List Value → World → Prop) (B2 : List Value → World → Prop) (t0 t1 t2 t3 t9 t11 t13 t17 t18 t19 t34 t35 t36 : Value) (w : World) : Prop := s228_p5_d K B1 B2 t0 t1 t2 t3 t9 t11 t13 t17 t18 t19 t34 t35 t36 (drw w) (drw w)
def s228_p5_den (K : Value → World → Prop) (M1 : (Nat → Value) → World → Prop) (M2 : (Nat → Value) → World → Prop) : (Nat → Value) → World → Prop := denL Tryz.prog [(cd (Tryz.f228.body.getD .skip) [1, 1, 0, 1, 0, 0, 1, 1, 0, 0, 1, 1, 1, 0, 0, 1, 1, 0, 0, 1, 0])] (s228_p4_den K M1 M2) (fun i => (bif Nat.beq i 3 then (s228_p3_den K M1 M2) else (bif Nat.beq i 2 then (s228_p2_den K M1) else (bif Nat.beq i 1 then (s228_p2_den K M1) else (bif Nat.beq i 0 then (s228_p1_den K) else (fun _ _ => False)))))) (s228_R K)
theorem s228_p5_ok (K : Value → World → Prop) (B1 : List Value → World → Prop) (B2 : List Value → World → Prop) (s : Nat → Value) (w : World) (h : s228_p5 K B1 B2 (s 0) (s 1) (s 2) (s 3) (s 9) (s 11) (s 13) (s 17) (s 18) (s 19) (s 34) (s 35) (s 36) w) : Tr (s228_p5_den K (fun s w => B1 [s 0, s 1, s 2, s 3, s 9, s 17, s 18, s 19] w) (fun s w => B2 [s 0, s 1, s 2, s 3, s 9, s 11, s 17, s 18, s 19, s 34, s 35, s 36] w) s w) :=
  tr_draw (P := Tryz.prog) (ops := (ro (cd (Tryz.f228.body.getD .skip) [1, 1, 0, 1, 0, 0, 1, 1, 0, 0, 1, 1, 1, 0, 0, 1, 1, 0, 0, 1, 0]))) (ms := [0, 1, 0, 7, 15, 31, 63, 31, 255, 511, 1023, 2047, 2047, 6143, 2047, 18431, 51199, 116735, 247807, 2047, 1034239, 2082815, 4179967, 8386559, 16777215, 33554431]) (cs := [0, 1, 2, 3, 4, 5, 6, 7, 8, 9, 10, 11, 12, 13, 14, 15, 16, 17, 18, 19, 20, 21, 22, 23, 24, 25]) (N := (fun s w => s228_p4 K B1 B2 (s 0) (s 1) (s 2) (s 3) (s 9) (s 11) (s 17) (s 18) (s 19) (s 34) (s 35) (s 36) (s 65) w)) (N' := (s228_p4_den K (fun s w => B1 [s 0, s 1, s 2, s 3, s 9, s 17, s 18, s 19] w) (fun s w => B2 [s 0, s 1, s 2, s 3, s 9, s 11, s 17, s 18, s 19, s 34, s 35, s 36] w))) (s := s) (w := w) (p := s228_p5 K B1 B2 (s 0) (s 1) (s 2) (s 3) (s 9) (s 11) (s 13) (s 17) (s 18) (s 19) (s 34) (s 35) (s 36) w) (q := s228_p5_den K (fun s w => B1 [s 0, s 1, s 2, s 3, s 9, s 17, s 18, s 19] w) (fun s w => B2 [s 0, s 1, s 2, s 3, s 9, s 11, s 17, s 18, s 19, s 34, s 35, s 36] w) s w) (by kernel_rfl) (by kernel_rfl) (fun s w h => s228_p4_ok K B1 B2 s w @h) (by kernel_rfl) (by kernel_rfl) @h
def s228_p6 (K : Value → World → Prop) (B1 : List Value → World → Prop) (B2 : List Value → World → Prop) (t0 t1 t2 t3 t9 t11 t17 t18 t19 t34 t35 t36 : Value) (w : World) : Prop :=
  ixs 2 t34 t36 (fun t38 w =>
  ldn 2 t38 (fun t39 w =>
  nw 88 #[(.int .i64 0), (.int .i64 0)] (fun t13 w =>
  stn 2 t13 t39 (fun w =>
  s228_p5 K B1 B2 t0 t1 t2 t3 t9 t11 t13 t17 t18 t19 t34 t35 t36 w) w) w) w) w
def s228_p6_den (K : Value → World → Prop) (M1 : (Nat → Value) → World → Prop) (M2 : (Nat → Value) → World → Prop) : (Nat → Value) → World → Prop := denL Tryz.prog [(cd (Tryz.f228.body.getD .skip) [1, 1, 0, 1, 0, 0, 1, 1, 0, 0, 1, 1, 1, 0, 0, 1, 1, 0, 0, 0])] (s228_p5_den K M1 M2) (fun i => (bif Nat.beq i 3 then (s228_p3_den K M1 M2) else (bif Nat.beq i 2 then (s228_p2_den K M1) else (bif Nat.beq i 1 then (s228_p2_den K M1) else (bif Nat.beq i 0 then (s228_p1_den K) else (fun _ _ => False)))))) (s228_R K)
theorem s228_p6_ok (K : Value → World → Prop) (B1 : List Value → World → Prop) (B2 : List Value → World → Prop) (s : Nat → Value) (w : World) (h : s228_p6 K B1 B2 (s 0) (s 1) (s 2) (s 3) (s 9) (s 11) (s 17) (s 18) (s 19) (s 34) (s 35) (s 36) w) : Tr (s228_p6_den K (fun s w => B1 [s 0, s 1, s 2, s 3, s 9, s 17, s 18, s 19] w) (fun s w => B2 [s 0, s 1, s 2, s 3, s 9, s 11, s 17, s 18, s 19, s 34, s 35, s 36] w) s w) :=
  tr_simple (P := Tryz.prog) (codes := [(cd (Tryz.f228.body.getD .skip) [1, 1, 0, 1, 0, 0, 1, 1, 0, 0, 1, 1, 1, 0, 0, 1, 1, 0, 0, 0])]) (N := (fun s w => s228_p5 K B1 B2 (s 0) (s 1) (s 2) (s 3) (s 9) (s 11) (s 13) (s 17) (s 18) (s 19) (s 34) (s 35) (s 36) w)) (N' := (s228_p5_den K (fun s w => B1 [s 0, s 1, s 2, s 3, s 9, s 17, s 18, s 19] w) (fun s w => B2 [s 0, s 1, s 2, s 3, s 9, s 11, s 17, s 18, s 19, s 34, s 35, s 36] w))) (X := (fun i => (bif Nat.beq i 3 then (fun s w => s228_p3 K B1 B2 (s 0) (s 1) (s 2) (s 3) (s 9) (s 11) (s 17) (s 18) (s 19) (s 34) (s 35) (s 36) w) else (bif Nat.beq i 2 then (fun s w => s228_p2 K B1 (s 0) (s 1) (s 2) (s 3) (s 9) (s 17) (s 18) (s 19) w) else (bif Nat.beq i 1 then (fun s w => s228_p2 K B1 (s 0) (s 1) (s 2) (s 3) (s 9) (s 17) (s 18) (s 19) w) else (bif Nat.beq i 0 then (fun s w => s228_p1 K (s 9) w) else (fun _ _ => False))))))) (X' := (fun i => (bif Nat.beq i 3 then (s228_p3_den K (fun s w => B1 [s 0, s 1, s 2, s 3, s 9, s 17, s 18, s 19] w) (fun s w => B2 [s 0, s 1, s 2, s 3, s 9, s 11, s 17, s 18, s 19, s 34, s 35, s 36] w)) else (bif Nat.beq i 2 then (s228_p2_den K (fun s w => B1 [s 0, s 1, s 2, s 3, s 9, s 17, s 18, s 19] w)) else (bif Nat.beq i 1 then (s228_p2_den K (fun s w => B1 [s 0, s 1, s 2, s 3, s 9, s 17, s 18, s 19] w)) else (bif Nat.beq i 0 then (s228_p1_den K) else (fun _ _ => False))))))) (R := s228_R K) (s := s) (w := w) (p := s228_p6 K B1 B2 (s 0) (s 1) (s 2) (s 3) (s 9) (s 11) (s 17) (s 18) (s 19) (s 34) (s 35) (s 36) w) (q := s228_p6_den K (fun s w => B1 [s 0, s 1, s 2, s 3, s 9, s 17, s 18, s 19] w) (fun s w => B2 [s 0, s 1, s 2, s 3, s 9, s 11, s 17, s 18, s 19, s 34, s 35, s 36] w) s w) (fun s w h => s228_p5_ok K B1 B2 s w @h) (fun i => (tr_bif (fun s w h => s228_p3_ok K B1 B2 s w @h) (tr_bif (fun s w h => s228_p2_ok K B1 s w @h) (tr_bif (fun s w h => s228_p2_ok K B1 s w @h) (tr_bif (fun s w h => s228_p1_ok K s w @h) tr_id))))) (by kernel_rfl) (by kernel_rfl) @h
def s228_p7 (K : Value → World → Prop) (B1 : List Value → World → Prop) (B2 : List Value → World → Prop) (t0 t1 t2 t3 t9 t11 t17 t18 t19 t34 t35 t36 : Value) (w : World) : Prop :=
  boI .lss t36 t35 (fun t37 w =>
  ifb t37
  (s228_p6 K B1 B2 t0 t1 t2 t3 t9 t11 t17 t18 t19 t34 t35 t36 w)
  (s228_p2 K B1 t0 t1 t2 t3 t9 t17 t18 t19 w)) w
def s228_p7_den (K : Value → World → Prop) (M1 : (Nat → Value) → World → Prop) (M2 : (Nat → Value) → World → Prop) : (Nat → Value) → World → Prop := denL Tryz.prog [(cd (Tryz.f228.body.getD .skip) [1, 1, 0, 1, 0, 0, 1, 1, 0, 0, 1, 1, 1, 0, 0, 0]), (cd (Tryz.f228.body.getD .skip) [1, 1, 0, 1, 0, 0, 1, 1, 0, 0, 1, 1, 1, 0, 0, 1, 0])] (s228_p6_den K M1 M2) (fun i => (bif Nat.beq i 2 then (s228_p2_den K M1) else (bif Nat.beq i 1 then (s228_p2_den K M1) else (bif Nat.beq i 0 then (s228_p1_den K) else (fun _ _ => False))))) (s228_R K)
theorem s228_p7_ok (K : Value → World → Prop) (B1 : List Value → World → Prop) (B2 : List Value → World → Prop) (s : Nat → Value) (w : World) (h : s228_p7 K B1 B2 (s 0) (s 1) (s 2) (s 3) (s 9) (s 11) (s 17) (s 18) (s 19) (s 34) (s 35) (s 36) w) : Tr (s228_p7_den K (fun s w => B1 [s 0, s 1, s 2, s 3, s 9, s 17, s 18, s 19] w) (fun s w => B2 [s 0, s 1, s 2, s 3, s 9, s 11, s 17, s 18, s 19, s 34, s 35, s 36] w) s w) :=
  tr_simple (P := Tryz.prog) (codes := [(cd (Tryz.f228.body.getD .skip) [1, 1, 0, 1, 0, 0, 1, 1, 0, 0, 1, 1, 1, 0, 0, 0]), (cd (Tryz.f228.body.getD .skip) [1, 1, 0, 1, 0, 0, 1, 1, 0, 0, 1, 1, 1, 0, 0, 1, 0])]) (N := (fun s w => s228_p6 K B1 B2 (s 0) (s 1) (s 2) (s 3) (s 9) (s 11) (s 17) (s 18) (s 19) (s 34) (s 35) (s 36) w)) (N' := (s228_p6_den K (fun s w => B1 [s 0, s 1, s 2, s 3, s 9, s 17, s 18, s 19] w) (fun s w => B2 [s 0, s 1, s 2, s 3, s 9, s 11, s 17, s 18, s 19, s 34, s 35, s 36] w))) (X := (fun i => (bif Nat.beq i 2 then (fun s w => s228_p2 K B1 (s 0) (s 1) (s 2) (s 3) (s 9) (s 17) (s 18) (s 19) w) else (bif Nat.beq i 1 then (fun s w => s228_p2 K B1 (s 0) (s 1) (s 2) (s 3) (s 9) (s 17) (s 18) (s 19) w) else (bif Nat.beq i 0 then (fun s w => s228_p1 K (s 9) w) else (fun _ _ => False)))))) (X' := (fun i => (bif Nat.beq i 2 then (s228_p2_den K (fun s w => B1 [s 0, s 1, s 2, s 3, s 9, s 17, s 18, s 19] w)) else (bif Nat.beq i 1 then (s228_p2_den K (fun s w => B1 [s 0, s 1, s 2, s 3, s 9, s 17, s 18, s 19] w)) else (bif Nat.beq i 0 then (s228_p1_den K) else (fun _ _ => False)))))) (R := s228_R K) (s := s) (w := w) (p := s228_p7 K B1 B2 (s 0) (s 1) (s 2) (s 3) (s 9) (s 11) (s 17) (s 18) (s 19) (s 34) (s 35) (s 36) w) (q := s228_p7_den K (fun s w => B1 [s 0, s 1, s 2, s 3, s 9, s 17, s 18, s 19] w) (fun s w => B2 [s 0, s 1, s 2, s 3, s 9, s 11, s 17, s 18, s 19, s 34, s 35, s 36] w) s w) (fun s w h => s228_p6_ok K B1 B2 s w @h) (fun i => (tr_bif (fun s w h => s228_p2_ok K B1 s w @h) (tr_bif (fun s w h => s228_p2_ok K B1 s w @h) (tr_bif (fun s w h => s228_p1_ok K s w @h) tr_id)))) (by kernel_rfl) (by kernel_rfl) @h
def s228_p8_F (K : Value → World → Prop) (B1 : List Value → World → Prop) (B2 : List Value → World → Prop) (l : List Value) (w : World) : Prop :=
  match l with
  | [t0, t1, t2, t3, t9, t11, t17, t18, t19, t34, t35, t36] => s228_p7 K B1 B2 t0 t1 t2 t3 t9 t11 t17 t18 t19 t34 t35 t36 w
  | _ => False
theorem s228_p8_Fe {K : Value → World → Prop} {B1 : List Value → World → Prop} {B2 : List Value → World → Prop} {t0 t1 t2 t3 t9 t11 t17 t18 t19 t34 t35 t36 : Value} {w : World} : s228_p8_F K B1 B2 [t0, t1, t2, t3, t9, t11, t17, t18, t19, t34, t35, t36] w = s228_p7 K B1 B2 t0 t1 t2 t3 t9 t11 t17 t18 t19 t34 t35 t36 w := by kernel_rfl
def s228_p8 (K : Value → World → Prop) (B1 : List Value → World → Prop) (t0 t1 t2 t3 t9 t11 t17 t18 t19 t34 t35 t36 : Value) (w : World) : Prop :=
  LoopL (s228_p8_F K B1) [t0, t1, t2, t3, t9, t11, t17, t18, t19, t34, t35, t36] w
def s228_p8_den (K : Value → World → Prop) (M1 : (Nat → Value) → World → Prop) : (Nat → Value) → World → Prop := fun s w => LoopP (fun M2 s w => s228_p7_den K M1 M2 s w) s w
theorem s228_p8_ok (K : Value → World → Prop) (B1 : List Value → World → Prop) (s : Nat → Value) (w : World) (h : s228_p8 K B1 (s 0) (s 1) (s 2) (s 3) (s 9) (s 11) (s 17) (s 18) (s 19) (s 34) (s 35) (s 36) w) : Tr (s228_p8_den K (fun s w => B1 [s 0, s 1, s 2, s 3, s 9, s 17, s 18, s 19] w) s w) :=
  tr_loop (G := fun N' s w => s228_p7_den K (fun s w => B1 [s 0, s 1, s 2, s 3, s 9, s 17, s 18, s 19] w) N' s w) (F := s228_p8_F K B1) (sel := fun s => [s 0, s 1, s 2, s 3, s 9, s 11, s 17, s 18, s 19, s 34, s 35, s 36]) (s := s) (w := w) (p := s228_p8 K B1 (s 0) (s 1) (s 2) (s 3) (s 9) (s 11) (s 17) (s 18) (s 19) (s 34) (s 35) (s 36) w) (q := s228_p8_den K (fun s w => B1 [s 0, s 1, s 2, s 3, s 9, s 17, s 18, s 19] w) s w) (fun B s w h => s228_p7_ok K B1 B s w @h) (by kernel_rfl) (by kernel_rfl) @h
def s228_p9 (K : Value → World → Prop) (B1 : List Value → World → Prop) (t0 t1 t2 t3 t9 t17 t18 t19 : Value) (w : World) : Prop :=
  ixs 7 t17 t19 (fun t21 w =>
  ldn 7 t21 (fun t22 w =>
  nw 85 #[(.int .i64 0), (.int .i64 0), (.int .i64 0), (.int .i64 0), (.int .i64 0), (.int .i64 0), (.slice none 0 0)] (fun t11 w =>
  stn 7 t11 t22 (fun w =>
  fd 1 t11 (fun t23 w =>
  ld1 t23 (fun t24 w =>
  cl Tryz.prog 197 #[t24] (fun t25 w =>
  un .not t25 (fun t26 w =>
  gd t26 false (fd 0 t11) (fun t28 w =>
  gd t26 false (ld1 t28) (fun t29 w =>
  gd t26 false (fun K w => K t3 w) (fun t30 w =>
  gd t26 false (boI .eql t29 t30) (fun t31 w =>
  pk t26 (.bool true) t31 (fun t32 w =>
  ifb t32
  (s228_p2 K B1 t0 t1 t2 t3 t9 t17 t18 t19 w)
  (fd 6 t11 (fun t33 w =>
  ld1 t33 (fun t34 w =>
  lnS t34 (fun t35 w =>
  s228_p8 K B1 t0 t1 t2 t3 t9 t11 t17 t18 t19 t34 t35 (.int .i64 0) w) w) w) w)) w) w) w) w) w) w) w) w) w) w) w) w) w
def s228_p9_den (K : Value → World → Prop) (M1 : (Nat → Value) → World → Prop) : (Nat → Value) → World → Prop := denL Tryz.prog [(cd (Tryz.f228.body.getD .skip) [1, 1, 0, 1, 0, 0, 1, 1, 0, 0, 0]), (cd (Tryz.f228.body.getD .skip) [1, 1, 0, 1, 0, 0, 1, 1, 0, 0, 1, 0, 0]), (cd (Tryz.f228.body.getD .skip) [1, 1, 0, 1, 0, 0, 1, 1, 0, 0, 1, 0, 1]), (cd (Tryz.f228.body.getD .skip) [1, 1, 0, 1, 0, 0, 1, 1, 0, 0, 1, 1, 0])] (s228_p8_den K M1) (fun i => (bif Nat.beq i 1 then (s228_p2_den K M1) else (bif Nat.beq i 0 then (s228_p1_den K) else (fun _ _ => False)))) (s228_R K)
theorem s228_p9_ok (K : Value → World → Prop) (B1 : List Value → World → Prop) (s : Nat → Value) (w : World) (h : s228_p9 K B1 (s 0) (s 1) (s 2) (s 3) (s 9) (s 17) (s 18) (s 19) w) : Tr (s228_p9_den K (fun s w => B1 [s 0, s 1, s 2, s 3, s 9, s 17, s 18, s 19] w) s w) :=
  tr_simple (P := Tryz.prog) (codes := [(cd (Tryz.f228.body.getD .skip) [1, 1, 0, 1, 0, 0, 1, 1, 0, 0, 0]), (cd (Tryz.f228.body.getD .skip) [1, 1, 0, 1, 0, 0, 1, 1, 0, 0, 1, 0, 0]), (cd (Tryz.f228.body.getD .skip) [1, 1, 0, 1, 0, 0, 1, 1, 0, 0, 1, 0, 1]), (cd (Tryz.f228.body.getD .skip) [1, 1, 0, 1, 0, 0, 1, 1, 0, 0, 1, 1, 0])]) (N := (fun s w => s228_p8 K B1 (s 0) (s 1) (s 2) (s 3) (s 9) (s 11) (s 17) (s 18) (s 19) (s 34) (s 35) (s 36) w)) (N' := (s228_p8_den K (fun s w => B1 [s 0, s 1, s 2, s 3, s 9, s 17, s 18, s 19] w))) (X := (fun i => (bif Nat.beq i 1 then (fun s w => s228_p2 K B1 (s 0) (s 1) (s 2) (s 3) (s 9) (s 17) (s 18) (s 19) w) else (bif Nat.beq i 0 then (fun s w => s228_p1 K (s 9) w) else (fun _ _ => False))))) (X' := (fun i => (bif Nat.beq i 1 then (s228_p2_den K (fun s w => B1 [s 0, s 1, s 2, s 3, s 9, s 17, s 18, s 19] w)) else (bif Nat.beq i 0 then (s228_p1_den K) else (fun _ _ => False))))) (R := s228_R K) (s := s) (w := w) (p := s228_p9 K B1 (s 0) (s 1) (s 2) (s 3) (s 9) (s 17) (s 18) (s 19) w) (q := s228_p9_den K (fun s w => B1 [s 0, s 1, s 2, s 3, s 9, s 17, s 18, s 19] w) s w) (fun s w h => s228_p8_ok K B1 s w @h) (fun i => (tr_bif (fun s w h => s228_p2_ok K B1 s w @h) (tr_bif (fun s w h => s228_p1_ok K s w @h) tr_id))) (by kernel_rfl) (by kernel_rfl) @h
def s228_p10 (K : Value → World → Prop) (B1 : List Value → World → Prop) (t0 t1 t2 t3 t9 t17 t18 t19 : Value) (w : World) : Prop :=
  boI .lss t19 t18 (fun t20 w =>
  ifb t20
  (s228_p9 K B1 t0 t1 t2 t3 t9 t17 t18 t19 w)
  (s228_p1 K t9 w)) w
def s228_p10_den (K : Value → World → Prop) (M1 : (Nat → Value) → World → Prop) : (Nat → Value) → World → Prop := denL Tryz.prog [(cd (Tryz.f228.body.getD .skip) [1, 1, 0, 1, 0, 0, 0]), (cd (Tryz.f228.body.getD .skip) [1, 1, 0, 1, 0, 0, 1, 0])] (s228_p9_den K M1) (fun i => (bif Nat.beq i 0 then (s228_p1_den K) else (fun _ _ => False))) (s228_R K)
theorem s228_p10_ok (K : Value → World → Prop) (B1 : List Value → World → Prop) (s : Nat → Value) (w : World) (h : s228_p10 K B1 (s 0) (s 1) (s 2) (s 3) (s 9) (s 17) (s 18) (s 19) w) : Tr (s228_p10_den K (fun s w => B1 [s 0, s 1, s 2, s 3, s 9, s 17, s 18, s 19] w) s w) :=
  tr_simple (P := Tryz.prog) (codes := [(cd (Tryz.f228.body.getD .skip) [1, 1, 0, 1, 0, 0, 0]), (cd (Tryz.f228.body.getD .skip) [1, 1, 0, 1, 0, 0, 1, 0])]) (N := (fun s w => s228_p9 K B1 (s 0) (s 1) (s 2) (s 3) (s 9) (s 17) (s 18) (s 19) w)) (N' := (s228_p9_den K (fun s w => B1 [s 0, s 1, s 2, s 3, s 9, s 17, s 18, s 19] w))) (X := (fun i => (bif Nat.beq i 0 then (fun s w => s228_p1 K (s 9) w) else (fun _ _ => False)))) (X' := (fun i => (bif Nat.beq i 0 then (s228_p1_den K) else (fun _ _ => False)))) (R := s228_R K) (s := s) (w := w) (p := s228_p10 K B1 (s 0) (s 1) (s 2) (s 3) (s 9) (s 17) (s 18) (s 19) w) (q := s228_p10_den K (fun s w => B1 [s 0, s 1, s 2, s 3, s 9, s 17, s 18, s 19] w) s w) (fun s w h => s228_p9_ok K B1 s w @h) (fun i => (tr_bif (fun s w h => s228_p1_ok K s w @h) tr_id)) (by kernel_rfl) (by kernel_rfl) @h
def s228_p11_F (K : Value → World → Prop) (B1 : List Value → World → Prop) (l : List Value) (w : World) : Prop :=
  match l with
  | [t0, t1, t2, t3, t9, t17, t18, t19] => s228_p10 K B1 t0 t1 t2 t3 t9 t17 t18 t19 w
  | _ => False
theorem s228_p11_Fe {K : Value → World → Prop} {B1 : List Value → World → Prop} {t0 t1 t2 t3 t9 t17 t18 t19 : Value} {w : World} : s228_p11_F K B1 [t0, t1, t2, t3, t9, t17, t18, t19] w = s228_p10 K B1 t0 t1 t2 t3 t9 t17 t18 t19 w := by kernel_rfl
def s228_p11 (K : Value → World → Prop) (t0 t1 t2 t3 t9 t17 t18 t19 : Value) (w : World) : Prop :=
  LoopL (s228_p11_F K) [t0, t1, t2, t3, t9, t17, t18, t19] w
def s228_p11_den (K : Value → World → Prop) : (Nat → Value) → World → Prop := fun s w => LoopP (fun M1 s w => s228_p10_den K M1 s w) s w
theorem s228_p11_ok (K : Value → World → Prop) (s : Nat → Value) (w : World) (h : s228_p11 K (s 0) (s 1) (s 2) (s 3) (s 9) (s 17) (s 18) (s 19) w) : Tr (s228_p11_den K s w) :=
  tr_loop (G := fun N' s w => s228_p10_den K N' s w) (F := s228_p11_F K) (sel := fun s => [s 0, s 1, s 2, s 3, s 9, s 17, s 18, s 19]) (s := s) (w := w) (p := s228_p11 K (s 0) (s 1) (s 2) (s 3) (s 9) (s 17) (s 18) (s 19) w) (q := s228_p11_den K s w) (fun B s w h => s228_p10_ok K B s w @h) (by kernel_rfl) (by kernel_rfl) @h
def s228_p12 (K : Value → World → Prop) (t0 t1 t2 t3 : Value) (w : World) : Prop :=
  nck t0 (fun t15 w =>
  fd 14 t15 (fun t16 w =>
  ld1 t16 (fun t17 w =>
  lnS t17 (fun t18 w =>
  s228_p11 K t0 t1 t2 t3 (.int .i64 0) t17 t18 (.int .i64 0) w) w) w) w) w
def s228_p12_den (K : Value → World → Prop) : (Nat → Value) → World → Prop := denL Tryz.prog [(cd (Tryz.f228.body.getD .skip) [0]), (cd (Tryz.f228.body.getD .skip) [1, 0]), (cd (Tryz.f228.body.getD .skip) [1, 1, 0, 0])] (s228_p11_den K) (fun i => (fun _ _ => False)) (s228_R K)
theorem s228_p12_ok (K : Value → World → Prop) (s : Nat → Value) (w : World) (h : s228_p12 K (s 0) (s 1) (s 2) (s 3) w) : Tr (s228_p12_den K s w) :=
  tr_simple (P := Tryz.prog) (codes := [(cd (Tryz.f228.body.getD .skip) [0]), (cd (Tryz.f228.body.getD .skip) [1, 0]), (cd (Tryz.f228.body.getD .skip) [1, 1, 0, 0])]) (N := (fun s w => s228_p11 K (s 0) (s 1) (s 2) (s 3) (s 9) (s 17) (s 18) (s 19) w)) (N' := (s228_p11_den K)) (X := (fun i => (fun _ _ => False))) (X' := (fun i => (fun _ _ => False))) (R := s228_R K) (s := s) (w := w) (p := s228_p12 K (s 0) (s 1) (s 2) (s 3) w) (q := s228_p12_den K s w) (fun s w h => s228_p11_ok K s w @h) (fun i => tr_id) (by kernel_rfl) (by kernel_rfl) @h
/-- the call, from the text -/
theorem c228 (t0 t1 t2 t3 : Value) {K : Value → World → Prop} {w : World} (h : s228_p12 K t0 t1 t2 t3 w) : cl Tryz.prog 228 #[t0, t1, t2, t3] K w :=
  calls_of_tr (c := (Tryz.f228.body.getD .skip)) (fn := Tryz.f228) (q := s228_p12_den K (st0 #[t0, t1, t2, t3]) w) Tryz.func228 (by kernel_rfl) (by kernel_rfl) (Nat.le_of_ble_eq_true (by kernel_rfl)) (by kernel_rfl) (by kernel_rfl) (s228_p12_ok K (st0 #[t0, t1, t2, t3]) w @h)

/-! ### function 229 : (*e2e.bookingm.Table).entered -/
def s229_R (K : Value → World → Prop) (s : Nat → Value) (w : World) : Prop := retv Tryz.prog s Tryz.f229.results.toList (fun vs => K (pack vs) w) w
def s229_p1 (K : Value → World → Prop) (t11 : Value) (w : World) : Prop :=
  K t11 w
def s229_p1_den (K : Value → World → Prop) : (Nat → Value) → World → Prop := denL Tryz.prog [(cd (Tryz.f229.body.getD .skip) [1, 1, 1, 0]), (cd (Tryz.f229.body.getD .skip) [1, 1, 1, 1])] (fun _ _ => False) (fun i => (fun _ _ => False)) (s229_R K)
theorem s229_p1_ok (K : Value → World → Prop) (s : Nat → Value) (w : World) (h : s229_p1 K (s 11) w) : Tr (s229_p1_den K s w) :=
  tr_simple (P := Tryz.prog) (codes := [(cd (Tryz.f229.body.getD .skip) [1, 1, 1, 0]), (cd (Tryz.f229.body.getD .skip) [1, 1, 1, 1])]) (N := (fun _ _ => False)) (N' := (fun _ _ => False)) (X := (fun i => (fun _ _ => False))) (X' := (fun i => (fun _ _ => False))) (R := s229_R K) (s := s) (w := w) (p := s229_p1 K (s 11) w) (q := s229_p1_den K s w) tr_id (fun i => tr_id) (by kernel_rfl) (by kernel_rfl) @h
def s229_p2 (K : Value → World → Prop) (B1 : List Value → World → Prop) (t1 t2 t3 t4 t11 t19 t20 t21 : Value) (w : World) : Prop :=
  boI .add t21 (.int .i64 1) (fun t63 w =>
  B1 [t1, t2, t3, t4, t11, t19, t20, t63] w) w
def s229_p2_den (K : Value → World → Prop) (M1 : (Nat → Value) → World → Prop) : (Nat → Value) → World → Prop := denL Tryz.prog [(cd (Tryz.f229.body.getD .skip) [1, 1, 0, 1, 0, 0, 1, 1, 1])] M1 (fun i => (bif Nat.beq i 0 then (s229_p1_den K) else (fun _ _ => False))) (s229_R K)
theorem s229_p2_ok (K : Value → World → Prop) (B1 : List Value → World → Prop) (s : Nat → Value) (w : World) (h : s229_p2 K B1 (s 1) (s 2) (s 3) (s 4) (s 11) (s 19) (s 20) (s 21) w) : Tr (s229_p2_den K (fun s w => B1 [s 1, s 2, s 3, s 4, s 11, s 19, s 20, s 21] w) s w) :=
  tr_simple (P := Tryz.prog) (codes := [(cd (Tryz.f229.body.getD .skip) [1, 1, 0, 1, 0, 0, 1, 1, 1])]) (N := (fun s w => B1 [s 1, s 2, s 3, s 4, s 11, s 19, s 20, s 21] w)) (N' := (fun s w => B1 [s 1, s 2, s 3, s 4, s 11, s 19, s 20, s 21] w)) (X := (fun i => (bif Nat.beq i 0 then (fun s w => s229_p1 K (s 11) w) else (fun _ _ => False)))) (X' := (fun i => (bif Nat.beq i 0 then (s229_p1_den K) else (fun _ _ => False)))) (R := s229_R K) (s := s) (w := w) (p := s229_p2 K B1 (s 1) (s 2) (s 3) (s 4) (s 11) (s 19) (s 20) (s 21) w) (q := s229_p2_den K (fun s w => B1 [s 1, s 2, s 3, s 4, s 11, s 19, s 20, s 21] w) s w) tr_id (fun i => (tr_bif (fun s w h => s229_p1_ok K s w @h) tr_id)) (by kernel_rfl) (by kernel_rfl) @h
def s229_p3 (K : Value → World → Prop) (B1 : List Value → World → Prop) (B2 : List Value → World → Prop) (t1 t2 t3 t4 t11 t13 t19 t20 t21 t42 t43 t44 : Value) (w : World) : Prop :=
  boI .add t44 (.int .i64 1) (fun t62 w =>
  B2 [t1, t2, t3, t4, t11, t13, t19, t20, t21, t42, t43, t62] w) w
def s229_p3_den (K : Value → World → Prop) (M1 : (Nat → Value) → World → Prop) (M2 : (Nat → Value) → World → Prop) : (Nat → Value) → World → Prop := denL Tryz.prog [(cd (Tryz.f229.body.getD .skip) [1, 1, 0, 1, 0, 0, 1, 1, 0, 0, 1, 1, 1, 0, 0, 1, 1, 1])] M2 (fun i => (bif Nat.beq i 2 then (s229_p2_den K M1) else (bif Nat.beq i 1 then (s229_p2_den K M1) else (bif Nat.beq i 0 then (s229_p1_den K) else (fun _ _ => False))))) (s229_R K)
theorem s229_p3_ok (K : Value → World → Prop) (B1 : List Value → World → Prop) (B2 : List Value → World → Prop) (s : Nat → Value) (w : World) (h : s229_p3 K B1 B2 (s 1) (s 2) (s 3) (s 4) (s 11) (s 13) (s 19) (s 20) (s 21) (s 42) (s 43) (s 44) w) : Tr (s229_p3_den K (fun s w => B1 [s 1, s 2, s 3, s 4, s 11, s 19, s 20, s 21] w) (fun s w => B2 [s 1, s 2, s 3, s 4, s 11, s 13, s 19, s 20, s 21, s 42, s 43, s 44] w) s w) :=
  tr_simple (P := Tryz.prog) (codes := [(cd (Tryz.f229.body.getD .skip) [1, 1, 0, 1, 0, 0, 1, 1, 0, 0, 1, 1, 1, 0, 0, 1, 1, 1])]) (N := (fun s w => B2 [s 1, s 2, s 3, s 4, s 11, s 13, s 19, s 20, s 21, s 42, s 43, s 44] w)) (N' := (fun s w => B2 [s 1, s 2, s 3, s 4, s 11, s 13, s 19, s 20, s 21, s 42, s 43, s 44] w)) (X := (fun i => (bif Nat.beq i 2 then (fun s w => s229_p2 K B1 (s 1) (s 2) (s 3) (s 4) (s 11) (s 19) (s 20) (s 21) w) else (bif Nat.beq i 1 then (fun s w => s229_p2 K B1 (s 1) (s 2) (s 3) (s 4) (s 11) (s 19) (s 20) (s 21) w) else (bif Nat.beq i 0 then (fun s w => s229_p1 K (s 11) w) else (fun _ _ => False)))))) (X' := (fun i => (bif Nat.beq i 2 then (s229_p2_den K (fun s w => B1 [s 1, s 2, s 3, s 4, s 11, s 19, s 20, s 21] w)) else (bif Nat.beq i 1 then (s229_p2_den K (fun s w => B1 [s 1, s 2, s 3, s 4, s 11, s 19, s 20, s 21] w)) else (bif Nat.beq i 0 then (s229_p1_den K) else (fun _ _ => False)))))) (R := s229_R K) (s := s) (w := w) (p := s229_p3 K B1 B2 (s 1) (s 2) (s 3) (s 4) (s 11) (s 13) (s 19) (s 20) (s 21) (s 42) (s 43) (s 44) w) (q := s229_p3_den K (fun s w => B1 [s 1, s 2, s 3, s 4, s 11, s 19, s 20, s 21] w) (fun s w => B2 [s 1, s 2, s 3, s 4, s 11, s 13, s 19, s 20, s 21, s 42, s 43, s 44] w) s w) tr_id (fun i => (tr_bif (fun s w h => s229_p2_ok K B1 s w @h) (tr_bif (fun s w h => s229_p2_ok K B1 s w @h) (tr_bif (fun s w h => s229_p1_ok K s w @h) tr_id)))) (by kernel_rfl) (by kernel_rfl) @h
def s229_p4 (K : Value → World → Prop) (B1 : List Value → World → Prop) (B2 : List Value → World → Prop) (t1 t2 t3 t4 t11 t13 t19 t20 t21 t42 t43 t44 : Value) (w : World) : Prop :=
  boI .lss t44 t43 (fun t45 w =>
  ifb t45
  (ixs 2 t42 t44 (fun t46 w =>
  ldn 2 t46 (fun t47 w =>
  nw 88 #[(.int .i64 0), (.int .i64 0)] (fun t15 w =>
  stn 2 t15 t47 (fun w =>
  fd 0 t15 (fun t48 w =>
  ld1 t48 (fun t49 w =>
  boI .eql t49 t1 (fun t51 w =>
  gd t51 true (fd 1 t15) (fun t53 w =>
  gd t51 true (ld1 t53) (fun t54 w =>
  gd t51 true (fun K w => K t2 w) (fun t55 w =>
  gd t51 true (boI .eql t54 t55) (fun t56 w =>
  pk t51 t56 (.bool false) (fun t57 w =>
  ifb t57
  (fd 3 t13 (fun t59 w =>
  ld1 t59 (fun t60 w =>
  boI .add t11 t60 (fun t61 w =>
  s229_p3 K B1 B2 t1 t2 t3 t4 t61 t13 t19 t20 t21 t42 t43 t44 w) w) w) w)
  (s229_p3 K B1 B2 t1 t2 t3 t4 t11 t13 t19 t20 t21 t42 t43 t44 w)) w) w) w) w) w) w) w) w) w) w) w) w)
  (s229_p2 K B1 t1 t2 t3 t4 t11 t19 t20 t21 w)) w
def s229_p4_den (K : Value → World → Prop) (M1 : (Nat → Value) → World → Prop) (M2 : (Nat → Value) → World → Prop) : (Nat → Value) → World → Prop := denL Tryz.prog [(cd (Tryz.f229.body.getD .skip) [1, 1, 0, 1, 0, 0, 1, 1, 0, 0, 1, 1, 1, 0, 0, 0]), (cd (Tryz.f229.body.getD .skip) [1, 1, 0, 1, 0, 0, 1, 1, 0, 0, 1, 1, 1, 0, 0, 1, 0]), (cd (Tryz.f229.body.getD .skip) [1, 1, 0, 1, 0, 0, 1, 1, 0, 0, 1, 1, 1, 0, 0, 1, 1, 0])] (s229_p3_den K M1 M2) (fun i => (bif Nat.beq i 2 then (s229_p2_den K M1) else (bif Nat.beq i 1 then (s229_p2_den K M1) else (bif Nat.beq i 0 then (s229_p1_den K) else (fun _ _ => False))))) (s229_R K)
theorem s229_p4_ok (K : Value → World → Prop) (B1 : List Value → World → Prop) (B2 : List Value → World → Prop) (s : Nat → Value) (w : World) (h : s229_p4 K B1 B2 (s 1) (s 2) (s 3) (s 4) (s 11) (s 13) (s 19) (s 20) (s 21) (s 42) (s 43) (s 44) w) : Tr (s229_p4_den K (fun s w => B1 [s 1, s 2, s 3, s 4, s 11, s 19, s 20, s 21] w) (fun s w => B2 [s 1, s 2, s 3, s 4, s 11, s 13, s 19, s 20, s 21, s 42, s 43, s 44] w) s w) :=
  tr_simple (P := Tryz.prog) (codes := [(cd (Tryz.f229.body.getD .skip) [1, 1, 0, 1, 0, 0, 1, 1, 0, 0, 1, 1, 1, 0, 0, 0]), (cd (Tryz.f229.body.getD .skip) [1, 1, 0, 1, 0, 0, 1, 1, 0, 0, 1, 1, 1, 0, 0, 1, 0]), (cd (Tryz.f229.body.getD .skip) [1, 1, 0, 1, 0, 0, 1, 1, 0, 0, 1, 1, 1, 0, 0, 1, 1, 0])]) (N := (fun s w => s229_p3 K B1 B2 (s 1) (s 2) (s 3) (s 4) (s 11) (s 13) (s 19) (s 20) (s 21) (s 42) (s 43) (s 44) w)) (N' := (s229_p3_den K (fun s w => B1 [s 1, s 2, s 3, s 4, s 11, s 19, s 20, s 21] w) (fun s w => B2 [s 1, s 2, s 3, s 4, s 11, s 13, s 19, s 20, s 21, s 42, s 43, s 44] w))) (X := (fun i => (bif Nat.beq i 2 then (fun s w => s229_p2 K B1 (s 1) (s 2) (s 3) (s 4) (s 11) (s 19) (s 20) (s 21) w) else (bif Nat.beq i 1 then (fun s w => s229_p2 K B1 (s 1) (s 2) (s 3) (s 4) (s 11) (s 19) (s 20) (s 21) w) else (bif Nat.beq i 0 then (fun s w => s229_p1 K (s 11) w) else (fun _ _ => False)))))) (X' := (fun i => (bif Nat.beq i 2 then (s229_p2_den K (fun s w => B1 [s 1, s 2, s 3, s 4, s 11, s 19, s 20, s 21] w)) else (bif Nat.beq i 1 then (s229_p2_den K (fun s w => B1 [s 1, s 2, s 3, s 4, s 11, s 19, s 20, s 21] w)) else (bif Nat.beq i 0 then (s229_p1_den K) else (fun _ _ => False)))))) (R := s229_R K) (s := s) (w := w) (p := s229_p4 K B1 B2 (s 1) (s 2) (s 3) (s 4) (s 11) (s 13) (s 19) (s 20) (s 21) (s 42) (s 43) (s 44) w) (q := s229_p4_den K (fun s w => B1 [s 1, s 2, s 3, s 4, s 11, s 19, s 20, s 21] w) (fun s w => B2 [s 1, s 2, s 3, s 4, s 11, s 13, s 19, s 20, s 21, s 42, s 43, s 44] w) s w) (fun s w h => s229_p3_ok K B1 B2 s w @h) (fun i => (tr_bif (fun s w h => s229_p2_ok K B1 s w @h) (tr_bif (fun s w h => s229_p2_ok K B1 s w @h) (tr_bif (fun s w h => s229_p1_ok K s w @h) tr_id)))) (by kernel_rfl) (by kernel_rfl) @h
def s229_p5_F (K : Value → World → Prop) (B1 : List Value → World → Prop) (B2 : List Value → World → Prop) (l : List Value) (w : World) : Prop :=
  match l with
  | [t1, t2, t3, t4, t11, t13, t19, t20, t21, t42, t43, t44] => s229_p4 K B1 B2 t1 t2 t3 t4 t11 t13 t19 t20 t21 t42 t43 t44 w
  | _ => False
theorem s229_p5_Fe {K : Value → World → Prop} {B1 : List Value → World → Prop} {B2 : List Value → World → Prop} {t1 t2 t3 t4 t11 t13 t19 t20 t21 t42 t43 t44 : Value} {w : World} : s229_p5_F K B1 B2 [t1, t2, t3, t4, t11, t13, t19, t20, t21, t42, t43, t44] w = s229_p4 K B1 B2 t1 t2 t3 t4 t11 t13 t19 t20 t21 t42 t43 t44 w := by kernel_rfl
def s229_p5 (K : Value → World → Prop) (B1 : List Value → World → Prop) (t1 t2 t3 t4 t11 t13 t19 t20 t21 t42 t43 t44 : Value) (w : World) : Prop :=
  LoopL (s229_p5_F K B1) [t1, t2, t3, t4, t11, t13, t19, t20, t21, t42, t43, t44] w
def s229_p5_den (K : Value → World → Prop) (M1 : (Nat → Value) → World → Prop) : (Nat → Value) → World → Prop := fun s w => LoopP (fun M2 s w => s229_p4_den K M1 M2 s w) s w
theorem s229_p5_ok (K : Value → World → Prop) (B1 : List Value → World → Prop) (s : Nat → Value) (w : World) (h : s229_p5 K B1 (s 1) (s 2) (s 3) (s 4) (s 11) (s 13) (s 19) (s 20) (s 21) (s 42) (s 43) (s 44) w) : Tr (s229_p5_den K (fun s w => B1 [s 1, s 2, s 3, s 4, s 11, s 19, s 20, s 21] w) s w) :=
  tr_loop (G := fun N' s w => s229_p4_den K (fun s w => B1 [s 1, s 2, s 3, s 4, s 11, s 19, s 20, s 21] w) N' s w) (F := s229_p5_F K B1) (sel := fun s => [s 1, s 2, s 3, s 4, s 11, s 13, s 19, s 20, s 21, s 42, s 43, s 44]) (s := s) (w := w) (p := s229_p5 K B1 (s 1) (s 2) (s 3) (s 4) (s 11) (s 13) (s 19) (s 20) (s 21) (s 42) (s 43) (s 44) w) (q := s229_p5_den K (fun s w => B1 [s 1, s 2, s 3, s 4, s 11, s 19, s 20, s 21] w) s w) (fun B s w h => s229_p4_ok K B1 B s w @h) (by kernel_rfl) (by kernel_rfl) @h
def s229_p6 (K : Value → World → Prop) (B1 : List Value → World → Prop) (t1 t2 t3 t4 t11 t19 t20 t21 : Value) (w : World) : Prop :=
  ixs 7 t19 t21 (fun t23 w =>
  ldn 7 t23 (fun t24 w =>
  nw 85 #[(.int .i64 0), (.int .i64 0), (.int .i64 0), (.int .i64 0), (.int .i64 0), (.int .i64 0), (.slice none 0 0)] (fun t13 w =>
  stn 7 t13 t24 (fun w =>
  fd 1 t13 (fun t25 w =>
  ld1 t25 (fun t26 w =>
  cl Tryz.prog 197 #[t26] (fun t27 w =>
  un .not t27 (fun t28 w =>
  gd t28 false (fd 0 t13) (fun t30 w =>
  gd t28 false (ld1 t30) (fun t31 w =>
  gd t28 false (fun K w => K t4 w) (fun t32 w =>
  gd t28 false (boI .eql t31 t32) (fun t33 w =>
  pk t28 (.bool true) t33 (fun t34 w =>
  gd t34 false (fd 2 t13) (fun t36 w =>
  gd t34 false (ld1 t36) (fun t37 w =>
  gd t34 false (fun K w => K t3 w) (fun t38 w =>
  gd t34 false (boI .neq t37 t38) (fun t39 w =>
  pk t34 (.bool true) t39 (fun t40 w =>
  ifb t40
  (s229_p2 K B1 t1 t2 t3 t4 t11 t19 t20 t21 w)
  (fd 6 t13 (fun t41 w =>
  ld1 t41 (fun t42 w =>
  lnS t42 (fun t43 w =>
  s229_p5 K B1 t1 t2 t3 t4 t11 t13 t19 t20 t21 t42 t43 (.int .i64 0) w) w) w) w)) w) w) w) w) w) w) w) w) w) w) w) w) w) w) w) w) w) w
def s229_p6_den (K : Value → World → Prop) (M1 : (Nat → Value) → World → Prop) : (Nat → Value) → World → Prop := denL Tryz.prog [(cd (Tryz.f229.body.getD .skip) [1, 1, 0, 1, 0, 0, 1, 1, 0, 0, 0]), (cd (Tryz.f229.body.getD .skip) [1, 1, 0, 1, 0, 0, 1, 1, 0, 0, 1, 0, 0]), (cd (Tryz.f229.body.getD .skip) [1, 1, 0, 1, 0, 0, 1, 1, 0, 0, 1, 0, 1]), (cd (Tryz.f229.body.getD .skip) [1, 1, 0, 1, 0, 0, 1, 1, 0, 0, 1, 1, 0])] (s229_p5_den K M1) (fun i => (bif Nat.beq i 1 then (s229_p2_den K M1) else (bif Nat.beq i 0 then (s229_p1_den K) else (fun _ _ => False)))) (s229_R K)
theorem s229_p6_ok (K : Value → World → Prop) (B1 : List Value → World → Prop) (s : Nat → Value) (w : World) (h : s229_p6 K B1 (s 1) (s 2) (s 3) (s 4) (s 11) (s 19) (s 20) (s 21) w) : Tr (s229_p6_den K (fun s w => B1 [s 1, s 2, s 3, s 4, s 11, s 19, s 20, s 21] w) s w) :=
  tr_simple (P := Tryz.prog) (codes := [(cd (Tryz.f229.body.getD .skip) [1, 1, 0, 1, 0, 0, 1, 1, 0, 0, 0]), (cd (Tryz.f229.body.getD .skip) [1, 1, 0, 1, 0, 0, 1, 1, 0, 0, 1, 0, 0]), (cd (Tryz.f229.body.getD .skip) [1, 1, 0, 1, 0, 0, 1, 1, 0, 0, 1, 0, 1]), (cd (Tryz.f229.body.getD .skip) [1, 1, 0, 1, 0, 0, 1, 1, 0, 0, 1, 1, 0])]) (N := (fun s w => s229_p5 K B1 (s 1) (s 2) (s 3) (s 4) (s 11) (s 13) (s 19) (s 20) (s 21) (s 42) (s 43) (s 44) w)) (N' := (s229_p5_den K (fun s w => B1 [s 1, s 2, s 3, s 4, s 11, s 19, s 20, s 21] w))) (X := (fun i => (bif Nat.beq i 1 then (fun s w => s229_p2 K B1 (s 1) (s 2) (s 3) (s 4) (s 11) (s 19) (s 20) (s 21) w) else (bif Nat.beq i 0 then (fun s w => s229_p1 K (s 11) w) else (fun _ _ => False))))) (X' := (fun i => (bif Nat.beq i 1 then (s229_p2_den K (fun s w => B1 [s 1, s 2, s 3, s 4, s 11, s 19, s 20, s 21] w)) else (bif Nat.beq i 0 then (s229_p1_den K) else (fun _ _ => False))))) (R := s229_R K) (s := s) (w := w) (p := s229_p6 K B1 (s 1) (s 2) (s 3) (s 4) (s 11) (s 19) (s 20) (s 21) w) (q := s229_p6_den K (fun s w => B1 [s 1, s 2, s 3, s 4, s 11, s 19, s 20, s 21] w) s w) (fun s w h => s229_p5_ok K B1 s w @h) (fun i => (tr_bif (fun s w h => s229_p2_ok K B1 s w @h) (tr_bif (fun s w h => s229_p1_ok K s w @h) tr_id))) (by kernel_rfl) (by kernel_rfl) @h
def s229_p7 (K : Value → World → Prop) (B1 : List Value → World → Prop) (t1 t2 t3 t4 t11 t19 t20 t21 : Value) (w : World) : Prop :=
  boI .lss t21 t20 (fun t22 w =>
  ifb t22
  (s229_p6 K B1 t1 t2 t3 t4 t11 t19 t20 t21 w)
  (s229_p1 K t11 w)) w
def s229_p7_den (K : Value → World → Prop) (M1 : (Nat → Value) → World → Prop) : (Nat → Value) → World → Prop := denL Tryz.prog [(cd (Tryz.f229.body.getD .skip) [1, 1, 0, 1, 0, 0, 0]), (cd (Tryz.f229.body.getD .skip) [1, 1, 0, 1, 0, 0, 1, 0])] (s229_p6_den K M1) (fun i => (bif Nat.beq i 0 then (s229_p1_den K) else (fun _ _ => False))) (s229_R K)
theorem s229_p7_ok (K : Value → World → Prop) (B1 : List Value → World → Prop) (s : Nat → Value) (w : World) (h : s229_p7 K B1 (s 1) (s 2) (s 3) (s 4) (s 11) (s 19) (s 20) (s 21) w) : Tr (s229_p7_den K (fun s w => B1 [s 1, s 2, s 3, s 4, s 11, s 19, s 20, s 21] w) s w) :=
  tr_simple (P := Tryz.prog) (codes := [(cd (Tryz.f229.body.getD .skip) [1, 1, 0, 1, 0, 0, 0]), (cd (Tryz.f229.body.getD .skip) [1, 1, 0, 1, 0, 0, 1, 0])]) (N := (fun s w => s229_p6 K B1 (s 1) (s 2) (s 3) (s 4) (s 11) (s 19) (s 20) (s 21) w)) (N' := (s229_p6_den K (fun s w => B1 [s 1, s 2, s 3, s 4, s 11, s 19, s 20, s 21] w))) (X := (fun i => (bif Nat.beq i 0 then (fun s w => s229_p1 K (s 11) w) else (fun _ _ => False)))) (X' := (fun i => (bif Nat.beq i 0 then (s229_p1_den K) else (fun _ _ => False)))) (R := s229_R K) (s := s) (w := w) (p := s229_p7 K B1 (s 1) (s 2) (s 3) (s 4) (s 11) (s 19) (s 20) (s 21) w) (q := s229_p7_den K (fun s w => B1 [s 1, s 2, s 3, s 4, s 11, s 19, s 20, s 21] w) s w) (fun s w h => s229_p6_ok K B1 s w @h) (fun i => (tr_bif (fun s w h => s229_p1_ok K s w @h) tr_id)) (by kernel_rfl) (by kernel_rfl) @h
def s229_p8_F (K : Value → World → Prop) (B1 : List Value → World → Prop) (l : List Value) (w : World) : Prop :=
  match l with
  | [t1, t2, t3, t4, t11, t19, t20, t21] => s229_p7 K B1 t1 t2 t3 t4 t11 t19 t20 t21 w
  | _ => False
theorem s229_p8_Fe {K : Value → World → Prop} {B1 : List Value → World → Prop} {t1 t2 t3 t4 t11 t19 t20 t21 : Value} {w : World} : s229_p8_F K B1 [t1, t2, t3, t4, t11, t19, t20, t21] w = s229_p7 K B1 t1 t2 t3 t4 t11 t19 t20 t21 w := by kernel_rfl
def s229_p8 (K : Value → World → Prop) (t1 t2 t3 t4 t11 t19 t20 t21 : Value) (w : World) : Prop :=
  LoopL (s229_p8_F K) [t1, t2, t3, t4, t11, t19, t20, t21] w
def s229_p8_den (K : Value → World → Prop) : (Nat → Value) → World → Prop := fun s w => LoopP (fun M1 s w => s229_p7_den K M1 s w) s w
theorem s229_p8_ok (K : Value → World → Prop) (s : Nat → Value) (w : World) (h : s229_p8 K (s 1) (s 2) (s 3) (s 4) (s 11) (s 19) (s 20) (s 21) w) : Tr (s229_p8_den K s w) :=
  tr_loop (G := fun N' s w => s229_p7_den K N' s w) (F := s229_p8_F K) (sel := fun s => [s 1, s 2, s 3, s 4, s 11, s 19, s 20, s 21]) (s := s) (w := w) (p := s229_p8 K (s 1) (s 2) (s 3) (s 4) (s 11) (s 19) (s 20) (s 21) w) (q := s229_p8_den K s w) (fun B s w h => s229_p7_ok K B s w @h) (by kernel_rfl) (by kernel_rfl) @h
def s229_p9 (K : Value → World → Prop) (t0 t1 t2 t3 t4 : Value) (w : World) : Prop :=
  nck t0 (fun t17 w =>
  fd 14 t17 (fun t18 w =>
  ld1 t18 (fun t19 w =>
  lnS t19 (fun t20 w =>
  s229_p8 K t1 t2 t3 t4 (.int .i64 0) t19 t20 (.int .i64 0) w) w) w) w) w
def s229_p9_den (K : Value → World → Prop) : (Nat → Value) → World → Prop := denL Tryz.prog [(cd (Tryz.f229.body.getD .skip) [0]), (cd (Tryz.f229.body.getD .skip) [1, 0]), (cd (Tryz.f229.body.getD .skip) [1, 1, 0, 0])] (s229_p8_den K) (fun i => (fun _ _ => False)) (s229_R K)
theorem s229_p9_ok (K : Value → World → Prop) (s : Nat → Value) (w : World) (h : s229_p9 K (s 0) (s 1) (s 2) (s 3) (s 4) w) : Tr (s229_p9_den K s w) :=
  tr_simple (P := Tryz.prog) (codes := [(cd (Tryz.f229.body.getD .skip) [0]), (cd (Tryz.f229.body.getD .skip) [1, 0]), (cd (Tryz.f229.body.getD .skip) [1, 1, 0, 0])]) (N := (fun s w => s229_p8 K (s 1) (s 2) (s 3) (s 4) (s 11) (s 19) (s 20) (s 21) w)) (N' := (s229_p8_den K)) (X := (fun i => (fun _ _ => False))) (X' := (fun i => (fun _ _ => False))) (R := s229_R K) (s := s) (w := w) (p := s229_p9 K (s 0) (s 1) (s 2) (s 3) (s 4) w) (q := s229_p9_den K s w) (fun s w h => s229_p8_ok K s w @h) (fun i => tr_id) (by kernel_rfl) (by kernel_rfl) @h
/-- the call, from the text -/
theorem c229 (t0 t1 t2 t3 t4 : Value) {K : Value → World → Prop} {w : World} (h : s229_p9 K t0 t1 t2 t3 t4 w) : cl Tryz.prog 229 #[t0, t1, t2, t3, t4] K w :=
  calls_of_tr (c := (Tryz.f229.body.getD .skip)) (fn := Tryz.f229) (q := s229_p9_den K (st0 #[t0, t1, t2, t3, t4]) w) Tryz.func229 (by kernel_rfl) (by kernel_rfl) (Nat.le_of_ble_eq_true (by kernel_rfl)) (by kernel_rfl) (by kernel_rfl) (s229_p9_ok K (st0 #[t0, t1, t2, t3, t4]) w @h)

/-! ### function 198 : (*e2e.bookingm.Table).Occupancy -/
def s198_R (K : Value → World → Prop) (s : Nat → Value) (w : World) : Prop := retv Tryz.prog s Tryz.f198.results.toList (fun vs => K (pack vs) w) w
def s198_p1 (K : Value → World → Prop) (t0 t1 t2 : Value) (w : World) : Prop :=
  cl Tryz.prog 228 #[t0, t1, t2, (.int .i64 0)] (fun t10 w =>
  K t10 w) w
def s198_p1_den (K : Value → World → Prop) : (Nat → Value) → World → Prop := denL Tryz.prog [(cd (Tryz.f198.body.getD .skip) [0]), (cd (Tryz.f198.body.getD .skip) [1, 0]), (cd (Tryz.f198.body.getD .skip) [1, 1])] (fun _ _ => False) (fun i => (fun _ _ => False)) (s198_R K)
theorem s198_p1_ok (K : Value → World → Prop) (s : Nat → Value) (w : World) (h : s198_p1 K (s 0) (s 1) (s 2) w) : Tr (s198_p1_den K s w) :=
  tr_simple (P := Tryz.prog) (codes := [(cd (Tryz.f198.body.getD .skip) [0]), (cd (Tryz.f198.body.getD .skip) [1, 0]), (cd (Tryz.f198.body.getD .skip) [1, 1])]) (N := (fun _ _ => False)) (N' := (fun _ _ => False)) (X := (fun i => (fun _ _ => False))) (X' := (fun i => (fun _ _ => False))) (R := s198_R K) (s := s) (w := w) (p := s198_p1 K (s 0) (s 1) (s 2) w) (q := s198_p1_den K s w) tr_id (fun i => tr_id) (by kernel_rfl) (by kernel_rfl) @h
/-- the call, from the text -/
theorem c198 (t0 t1 t2 : Value) {K : Value → World → Prop} {w : World} (h : s198_p1 K t0 t1 t2 w) : cl Tryz.prog 198 #[t0, t1, t2] K w :=
  calls_of_tr (c := (Tryz.f198.body.getD .skip)) (fn := Tryz.f198) (q := s198_p1_den K (st0 #[t0, t1, t2]) w) Tryz.func198 (by kernel_rfl) (by kernel_rfl) (Nat.le_of_ble_eq_true (by kernel_rfl)) (by kernel_rfl) (by kernel_rfl) (s198_p1_ok K (st0 #[t0, t1, t2]) w @h)

/-! ### function 199 : (*e2e.bookingm.Table).Entered -/
def s199_R (K : Value → World → Prop) (s : Nat → Value) (w : World) : Prop := retv Tryz.prog s Tryz.f199.results.toList (fun vs => K (pack vs) w) w
def s199_p1 (K : Value → World → Prop) (t0 t1 t2 t3 : Value) (w : World) : Prop :=
  cl Tryz.prog 229 #[t0, t1, t2, t3, (.int .i64 0)] (fun t13 w =>
  K t13 w) w
def s199_p1_den (K : Value → World → Prop) : (Nat → Value) → World → Prop := denL Tryz.prog [(cd (Tryz.f199.body.getD .skip) [0]), (cd (Tryz.f199.body.getD .skip) [1, 0]), (cd (Tryz.f199.body.getD .skip) [1, 1])] (fun _ _ => False) (fun i => (fun _ _ => False)) (s199_R K)
theorem s199_p1_ok (K : Value → World → Prop) (s : Nat → Value) (w : World) (h : s199_p1 K (s 0) (s 1) (s 2) (s 3) w) : Tr (s199_p1_den K s w) :=
  tr_simple (P := Tryz.prog) (codes := [(cd (Tryz.f199.body.getD .skip) [0]), (cd (Tryz.f199.body.getD .skip) [1, 0]), (cd (Tryz.f199.body.getD .skip) [1, 1])]) (N := (fun _ _ => False)) (N' := (fun _ _ => False)) (X := (fun i => (fun _ _ => False))) (X' := (fun i => (fun _ _ => False))) (R := s199_R K) (s := s) (w := w) (p := s199_p1 K (s 0) (s 1) (s 2) (s 3) w) (q := s199_p1_den K s w) tr_id (fun i => tr_id) (by kernel_rfl) (by kernel_rfl) @h
/-- the call, from the text -/
theorem c199 (t0 t1 t2 t3 : Value) {K : Value → World → Prop} {w : World} (h : s199_p1 K t0 t1 t2 t3 w) : cl Tryz.prog 199 #[t0, t1, t2, t3] K w :=
  calls_of_tr (c := (Tryz.f199.body.getD .skip)) (fn := Tryz.f199) (q := s199_p1_den K (st0 #[t0, t1, t2, t3]) w) Tryz.func199 (by kernel_rfl) (by kernel_rfl) (Nat.le_of_ble_eq_true (by kernel_rfl)) (by kernel_rfl) (by kernel_rfl) (s199_p1_ok K (st0 #[t0, t1, t2, t3]) w @h)

/-! ### function 232 : (*e2e.bookingm.Table).fits -/
def s232_R (K : Value → World → Prop) (s : Nat → Value) (w : World) : Prop := retv Tryz.prog s Tryz.f232.results.toList (fun vs => K (pack vs) w) w
def s232_p1 (K : Value → World → Prop) (w : World) : Prop :=
  K (.int .i64 0) w
def s232_p1_den (K : Value → World → Prop) : (Nat → Value) → World → Prop := denL Tryz.prog [(cd (Tryz.f232.body.getD .skip) [1, 1, 1, 1, 1, 1, 0]), (cd (Tryz.f232.body.getD .skip) [1, 1, 1, 1, 1, 1, 1])] (fun _ _ => False) (fun i => (fun _ _ => False)) (s232_R K)
theorem s232_p1_ok (K : Value → World → Prop) (s : Nat → Value) (w : World) (h : s232_p1 K w) : Tr (s232_p1_den K s w) :=
  tr_simple (P := Tryz.prog) (codes := [(cd (Tryz.f232.body.getD .skip) [1, 1, 1, 1, 1, 1, 0]), (cd (Tryz.f232.body.getD .skip) [1, 1, 1, 1, 1, 1, 1])]) (N := (fun _ _ => False)) (N' := (fun _ _ => False)) (X := (fun i => (fun _ _ => False))) (X' := (fun i => (fun _ _ => False))) (R := s232_R K) (s := s) (w := w) (p := s232_p1 K w) (q := s232_p1_den K s w) tr_id (fun i => tr_id) (by kernel_rfl) (by kernel_rfl) @h
def s232_p2 (K : Value → World → Prop) (B1 : List Value → World → Prop) (t0 t4 t29 : Value) (w : World) : Prop :=
  boI .add t29 (.int .i64 1) (fun t190 w =>
  B1 [t0, t4, t190] w) w
def s232_p2_den (K : Value → World → Prop) (M1 : (Nat → Value) → World → Prop) : (Nat → Value) → World → Prop := denL Tryz.prog [(cd (Tryz.f232.body.getD .skip) [1, 1, 1, 1, 1, 0, 1, 0, 0, 1, 1])] M1 (fun i => (bif Nat.beq i 14 then (s232_p1_den K) else (fun _ _ => False))) (s232_R K)
theorem s232_p2_ok (K : Value → World → Prop) (B1 : List Value → World → Prop) (s : Nat → Value) (w : World) (h : s232_p2 K B1 (s 0) (s 4) (s 29) w) : Tr (s232_p2_den K (fun s w => B1 [s 0, s 4, s 29] w) s w) :=
  tr_simple (P := Tryz.prog) (codes := [(cd (Tryz.f232.body.getD .skip) [1, 1, 1, 1, 1, 0, 1, 0, 0, 1, 1])]) (N := (fun s w => B1 [s 0, s 4, s 29] w)) (N' := (fun s w => B1 [s 0, s 4, s 29] w)) (X := (fun i => (bif Nat.beq i 14 then (fun s w => s232_p1 K w) else (fun _ _ => False)))) (X' := (fun i => (bif Nat.beq i 14 then (s232_p1_den K) else (fun _ _ => False)))) (R := s232_R K) (s := s) (w := w) (p := s232_p2 K B1 (s 0) (s 4) (s 29) w) (q := s232_p2_den K (fun s w => B1 [s 0, s 4, s 29] w) s w) tr_id (fun i => (tr_bif (fun s w h => s232_p1_ok K s w @h) tr_id)) (by kernel_rfl) (by kernel_rfl) @h
def s232_p3 (K : Value → World → Prop) (B1 : List Value → World → Prop) (t0 t4 t29 t229 : Value) (w : World) : Prop :=
  ifb t229
  (K (.int .i64 7) w)
  (s232_p2 K B1 t0 t4 t29 w)
def s232_p3_den (K : Value → World → Prop) (M1 : (Nat → Value) → World → Prop) : (Nat → Value) → World → Prop := denL Tryz.prog [(cd (Tryz.f232.body.getD .skip) [1, 1, 1, 1, 1, 0, 1, 0, 0, 1, 0, 0, 1, 1])] (s232_p2_den K M1) (fun i => (bif Nat.beq i 15 then (s232_p2_den K M1) else (bif Nat.beq i 14 then (s232_p1_den K) else (fun _ _ => False)))) (s232_R K)
theorem s232_p3_ok (K : Value → World → Prop) (B1 : List Value → World → Prop) (s : Nat → Value) (w : World) (h : s232_p3 K B1 (s 0) (s 4) (s 29) (s 229) w) : Tr (s232_p3_den K (fun s w => B1 [s 0, s 4, s 29] w) s w) :=
  tr_simple (P := Tryz.prog) (codes := [(cd (Tryz.f232.body.getD .skip) [1, 1, 1, 1, 1, 0, 1, 0, 0, 1, 0, 0, 1, 1])]) (N := (fun s w => s232_p2 K B1 (s 0) (s 4) (s 29) w)) (N' := (s232_p2_den K (fun s w => B1 [s 0, s 4, s 29] w))) (X := (fun i => (bif Nat.beq i 15 then (fun s w => s232_p2 K B1 (s 0) (s 4) (s 29) w) else (bif Nat.beq i 14 then (fun s w => s232_p1 K w) else (fun _ _ => False))))) (X' := (fun i => (bif Nat.beq i 15 then (s232_p2_den K (fun s w => B1 [s 0, s 4, s 29] w)) else (bif Nat.beq i 14 then (s232_p1_den K) else (fun _ _ => False))))) (R := s232_R K) (s := s) (w := w) (p := s232_p3 K B1 (s 0) (s 4) (s 29) (s 229) w) (q := s232_p3_den K (fun s w => B1 [s 0, s 4, s 29] w) s w) (fun s w h => s232_p2_ok K B1 s w @h) (fun i => (tr_bif (fun s w h => s232_p2_ok K B1 s w @h) (tr_bif (fun s w h => s232_p1_ok K s w @h) tr_id))) (by kernel_rfl) (by kernel_rfl) @h
def s232_p4_d (K : Value → World → Prop) (B1 : List Value → World → Prop) (t0 t4 t29 t30 t31 : Value) (w0 w : World) : Prop :=
  fd 1 t31 (fun t200 _ =>
  ld1 t200 (fun t201 _ =>
  fd 1 t30 (fun t202 _ =>
  ld1 t202 (fun t203 _ =>
  nck t0 (fun t205 _ =>
  fd 0 t205 (fun t206 _ =>
  fd 0 t206 (fun t207 _ =>
  ld1 t207 (fun t208 _ =>
  fd 0 t30 (fun t209 _ =>
  ld1 t209 (fun t210 _ =>
  ixs 5 t208 t210 (fun t211 _ =>
  fd 1 t211 (fun t212 _ =>
  ld1 t212 (fun t213 _ =>
  boI .add t203 t213 (fun t214 _ =>
  nck t0 (fun t216 _ =>
  fd 0 t216 (fun t217 _ =>
  fd 1 t217 (fun t218 _ =>
  ld1 t218 (fun t219 _ =>
  fd 0 t30 (fun t220 _ =>
  ld1 t220 (fun t221 _ =>
  ixs 1 t219 t221 (fun t222 _ =>
  ld1 t222 (fun t223 _ =>
  fd 0 t31 (fun t224 _ =>
  ld1 t224 (fun t225 _ =>
  ixs 1 t223 t225 (fun t226 _ =>
  ld1 t226 (fun t227 _ =>
  boI .add t214 t227 (fun t228 _ =>
  boI .lss t201 t228 (fun t229 _ =>
  s232_p3 K B1 t0 t4 t29 t229 w) w0) w0) w0) w0) w0) w0) w0) w0) w0) w0) w0) w0) w0) w0) w0) w0) w0) w0) w0) w0) w0) w0) w0) w0) w0) w0) w0) w0
def s232_p4 (K : Value → World → Prop) (B1 : List Value → World → Prop) (t0 t4 t29 t30 t31 : Value) (w : World) : Prop := s232_p4_d K B1 t0 t4 t29 t30 t31 (drw w) (drw w)
def s232_p4_den (K : Value → World → Prop) (M1 : (Nat → Value) → World → Prop) : (Nat → Value) → World → Prop := denL Tryz.prog [(cd (Tryz.f232.body.getD .skip) [1, 1, 1, 1, 1, 0, 1, 0, 0, 1, 0, 0, 1, 0])] (s232_p3_den K M1) (fun i => (bif Nat.beq i 15 then (s232_p2_den K M1) else (bif Nat.beq i 14 then (s232_p1_den K) else (fun _ _ => False)))) (s232_R K)
theorem s232_p4_ok (K : Value → World → Prop) (B1 : List Value → World → Prop) (s : Nat → Value) (w : World) (h : s232_p4 K B1 (s 0) (s 4) (s 29) (s 30) (s 31) w) : Tr (s232_p4_den K (fun s w => B1 [s 0, s 4, s 29] w) s w) :=
  tr_draw (P := Tryz.prog) (ops := (ro (cd (Tryz.f232.body.getD .skip) [1, 1, 1, 1, 1, 0, 1, 0, 0, 1, 0, 0, 1, 0]))) (ms := [0, 1, 0, 4, 0, 16, 48, 112, 240, 0, 512, 2032, 4080, 8176, 16380, 0, 32768, 98304, 229376, 491520, 0, 1048576, 4161536, 8355840, 0, 16777216, 67076096, 134184960, 268435452, 536870911]) (cs := [0, 1, 2, 3, 4, 5, 6, 7, 8, 9, 10, 11, 12, 13, 14, 15, 16, 17, 18, 19, 20, 21, 22, 23, 24, 25, 26, 27, 28, 29]) (N := (fun s w => s232_p3 K B1 (s 0) (s 4) (s 29) (s 229) w)) (N' := (s232_p3_den K (fun s w => B1 [s 0, s 4, s 29] w))) (s := s) (w := w) (p := s232_p4 K B1 (s 0) (s 4) (s 29) (s 30) (s 31) w) (q := s232_p4_den K (fun s w => B1 [s 0, s 4, s 29] w) s w) (by kernel_rfl) (by kernel_rfl) (fun s w h => s232_p3_ok K B1 s w @h) (by kernel_rfl) (by kernel_rfl) @h
def s232_p5_d (K : Value → World → Prop) (B1 : List Value → World → Prop) (t0 t4 t29 : Value) (w0 w : World) : Prop :=
  ixs 2 t4 t29 (fun t198 _ =>
  (boI .sub t29 (.int .i64 1) (fun t193 w =>
  (ixs 2 t4 t193 (fun t194 w =>
  (ldn 2 t194 (fun t195 w =>
  (ldn 2 t198 (fun t199 w =>
  (nw 88 #[(.int .i64 0), (.int .i64 0)] (fun t30 w =>
  nw 88 #[(.int .i64 0), (.int .i64 0)] (fun t31 w =>
  stn 2 t30 t195 (fun w =>
  stn 2 t31 t199 (fun w =>
  s232_p4 K B1 t0 t4 t29 t30 t31 w) w) w) w) w) ∧
  (nw 88 #[(.int .i64 0), (.int .i64 0)] (fun t31_2 w =>
  nw 88 #[(.int .i64 0), (.int .i64 0)] (fun t30_2 w =>
  stn 2 t30_2 t195 (fun w =>
  stn 2 t31_2 t199 (fun w =>
  s232_p4 K B1 t0 t4 t29 t30_2 t31_2 w) w) w) w) w)) w) ∧
  (nw 88 #[(.int .i64 0), (.int .i64 0)] (fun t30_3 w =>
  (ldn 2 t198 (fun t199_2 w =>
  nw 88 #[(.int .i64 0), (.int .i64 0)] (fun t31_3 w =>
  stn 2 t30_3 t195 (fun w =>
  stn 2 t31_3 t199_2 (fun w =>
  s232_p4 K B1 t0 t4 t29 t30_3 t31_3 w) w) w) w) w) ∧
  (nw 88 #[(.int .i64 0), (.int .i64 0)] (fun t31_4 w =>
  (ldn 2 t198 (fun t199_3 w =>
  stn 2 t30_3 t195 (fun w =>
  stn 2 t31_4 t199_3 (fun w =>
  s232_p4 K B1 t0 t4 t29 t30_3 t31_4 w) w) w) w) ∧
  (stn 2 t30_3 t195 (fun w =>
  ldn 2 t198 (fun t199_4 w =>
  stn 2 t31_4 t199_4 (fun w =>
  s232_p4 K B1 t0 t4 t29 t30_3 t31_4 w) w) w) w)) w)) w) ∧
  (nw 88 #[(.int .i64 0), (.int .i64 0)] (fun t31_5 w =>
  (ldn 2 t198 (fun t199_5 w =>
  nw 88 #[(.int .i64 0), (.int .i64 0)] (fun t30_4 w =>
  stn 2 t30_4 t195 (fun w =>
  stn 2 t31_5 t199_5 (fun w =>
  s232_p4 K B1 t0 t4 t29 t30_4 t31_5 w) w) w) w) w) ∧
  (nw 88 #[(.int .i64 0), (.int .i64 0)] (fun t30_5 w =>
  (ldn 2 t198 (fun t199_6 w =>
  stn 2 t30_5 t195 (fun w =>
  stn 2 t31_5 t199_6 (fun w =>
  s232_p4 K B1 t0 t4 t29 t30_5 t31_5 w) w) w) w) ∧
  (stn 2 t30_5 t195 (fun w =>
  ldn 2 t198 (fun t199_7 w =>
  stn 2 t31_5 t199_7 (fun w =>
  s232_p4 K B1 t0 t4 t29 t30_5 t31_5 w) w) w) w)) w)) w)) w) ∧
  (ldn 2 t198 (fun t199_8 w =>
  (ldn 2 t194 (fun t195_2 w =>
  (nw 88 #[(.int .i64 0), (.int .i64 0)] (fun t30_6 w =>
  nw 88 #[(.int .i64 0), (.int .i64 0)] (fun t31_6 w =>
  stn 2 t30_6 t195_2 (fun w =>
  stn 2 t31_6 t199_8 (fun w =>
  s232_p4 K B1 t0 t4 t29 t30_6 t31_6 w) w) w) w) w) ∧
  (nw 88 #[(.int .i64 0), (.int .i64 0)] (fun t31_7 w =>
  nw 88 #[(.int .i64 0), (.int .i64 0)] (fun t30_7 w =>
  stn 2 t30_7 t195_2 (fun w =>
  stn 2 t31_7 t199_8 (fun w =>
  s232_p4 K B1 t0 t4 t29 t30_7 t31_7 w) w) w) w) w)) w) ∧
  (nw 88 #[(.int .i64 0), (.int .i64 0)] (fun t30_8 w =>
  (ldn 2 t194 (fun t195_3 w =>
  nw 88 #[(.int .i64 0), (.int .i64 0)] (fun t31_8 w =>
  stn 2 t30_8 t195_3 (fun w =>
  stn 2 t31_8 t199_8 (fun w =>
  s232_p4 K B1 t0 t4 t29 t30_8 t31_8 w) w) w) w) w) ∧
  (nw 88 #[(.int .i64 0), (.int .i64 0)] (fun t31_9 w =>
  ldn 2 t194 (fun t195_4 w =>
  stn 2 t30_8 t195_4 (fun w =>
  stn 2 t31_9 t199_8 (fun w =>
  s232_p4 K B1 t0 t4 t29 t30_8 t31_9 w) w) w) w) w)) w) ∧
  (nw 88 #[(.int .i64 0), (.int .i64 0)] (fun t31_10 w =>
  (ldn 2 t194 (fun t195_5 w =>
  nw 88 #[(.int .i64 0), (.int .i64 0)] (fun t30_9 w =>
  stn 2 t30_9 t195_5 (fun w =>
  stn 2 t31_10 t199_8 (fun w =>
  s232_p4 K B1 t0 t4 t29 t30_9 t31_10 w) w) w) w) w) ∧
  (nw 88 #[(.int .i64 0), (.int .i64 0)] (fun t30_10 w =>
  ldn 2 t194 (fun t195_6 w =>
  stn 2 t30_10 t195_6 (fun w =>
  stn 2 t31_10 t199_8 (fun w =>
  s232_p4 K B1 t0 t4 t29 t30_10 t31_10 w) w) w) w) w)) w)) w) ∧
  (nw 88 #[(.int .i64 0), (.int .i64 0)] (fun t30_11 w =>
  (ldn 2 t194 (fun t195_7 w =>
  (ldn 2 t198 (fun t199_9 w =>
  nw 88 #[(.int .i64 0), (.int .i64 0)] (fun t31_11 w =>
  stn 2 t30_11 t195_7 (fun w =>
  stn 2 t31_11 t199_9 (fun w =>
  s232_p4 K B1 t0 t4 t29 t30_11 t31_11 w) w) w) w) w) ∧
  (nw 88 #[(.int .i64 0), (.int .i64 0)] (fun t31_12 w =>
  (ldn 2 t198 (fun t199_10 w =>
  stn 2 t30_11 t195_7 (fun w =>
  stn 2 t31_12 t199_10 (fun w =>
  s232_p4 K B1 t0 t4 t29 t30_11 t31_12 w) w) w) w) ∧
  (stn 2 t30_11 t195_7 (fun w =>
  ldn 2 t198 (fun t199_11 w =>
  stn 2 t31_12 t199_11 (fun w =>
  s232_p4 K B1 t0 t4 t29 t30_11 t31_12 w) w) w) w)) w)) w) ∧
  (ldn 2 t198 (fun t199_12 w =>
  (ldn 2 t194 (fun t195_8 w =>
  nw 88 #[(.int .i64 0), (.int .i64 0)] (fun t31_13 w =>
  stn 2 t30_11 t195_8 (fun w =>
  stn 2 t31_13 t199_12 (fun w =>
  s232_p4 K B1 t0 t4 t29 t30_11 t31_13 w) w) w) w) w) ∧
  (nw 88 #[(.int .i64 0), (.int .i64 0)] (fun t31_14 w =>
  ldn 2 t194 (fun t195_9 w =>
  stn 2 t30_11 t195_9 (fun w =>
  stn 2 t31_14 t199_12 (fun w =>
  s232_p4 K B1 t0 t4 t29 t30_11 t31_14 w) w) w) w) w)) w) ∧
  (nw 88 #[(.int .i64 0), (.int .i64 0)] (fun t31_15 w =>
  (ldn 2 t194 (fun t195_10 w =>
  (ldn 2 t198 (fun t199_13 w =>
  stn 2 t30_11 t195_10 (fun w =>
  stn 2 t31_15 t199_13 (fun w =>
  s232_p4 K B1 t0 t4 t29 t30_11 t31_15 w) w) w) w) ∧
  (stn 2 t30_11 t195_10 (fun w =>
  ldn 2 t198 (fun t199_14 w =>
  stn 2 t31_15 t199_14 (fun w =>
  s232_p4 K B1 t0 t4 t29 t30_11 t31_15 w) w) w) w)) w) ∧
  (ldn 2 t198 (fun t199_15 w =>
  ldn 2 t194 (fun t195_11 w =>
  stn 2 t30_11 t195_11 (fun w =>
  stn 2 t31_15 t199_15 (fun w =>
  s232_p4 K B1 t0 t4 t29 t30_11 t31_15 w) w) w) w) w)) w)) w) ∧
  (nw 88 #[(.int .i64 0), (.int .i64 0)] (fun t31_16 w =>
  (ldn 2 t194 (fun t195_12 w =>
  (ldn 2 t198 (fun t199_16 w =>
  nw 88 #[(.int .i64 0), (.int .i64 0)] (fun t30_12 w =>
  stn 2 t30_12 t195_12 (fun w =>
  stn 2 t31_16 t199_16 (fun w =>
  s232_p4 K B1 t0 t4 t29 t30_12 t31_16 w) w) w) w) w) ∧
  (nw 88 #[(.int .i64 0), (.int .i64 0)] (fun t30_13 w =>
  (ldn 2 t198 (fun t199_17 w =>
  stn 2 t30_13 t195_12 (fun w =>
  stn 2 t31_16 t199_17 (fun w =>
  s232_p4 K B1 t0 t4 t29 t30_13 t31_16 w) w) w) w) ∧
  (stn 2 t30_13 t195_12 (fun w =>
  ldn 2 t198 (fun t199_18 w =>
  stn 2 t31_16 t199_18 (fun w =>
  s232_p4 K B1 t0 t4 t29 t30_13 t31_16 w) w) w) w)) w)) w) ∧
  (ldn 2 t198 (fun t199_19 w =>
  (ldn 2 t194 (fun t195_13 w =>
  nw 88 #[(.int .i64 0), (.int .i64 0)] (fun t30_14 w =>
  stn 2 t30_14 t195_13 (fun w =>
  stn 2 t31_16 t199_19 (fun w =>
  s232_p4 K B1 t0 t4 t29 t30_14 t31_16 w) w) w) w) w) ∧
  (nw 88 #[(.int .i64 0), (.int .i64 0)] (fun t30_15 w =>
  ldn 2 t194 (fun t195_14 w =>
  stn 2 t30_15 t195_14 (fun w =>
  stn 2 t31_16 t199_19 (fun w =>
  s232_p4 K B1 t0 t4 t29 t30_15 t31_16 w) w) w) w) w)) w) ∧
  (nw 88 #[(.int .i64 0), (.int .i64 0)] (fun t30_16 w =>
  (ldn 2 t194 (fun t195_15 w =>
  (ldn 2 t198 (fun t199_20 w =>
  stn 2 t30_16 t195_15 (fun w =>
  stn 2 t31_16 t199_20 (fun w =>
  s232_p4 K B1 t0 t4 t29 t30_16 t31_16 w) w) w) w) ∧
  (stn 2 t30_16 t195_15 (fun w =>
  ldn 2 t198 (fun t199_21 w =>
  stn 2 t31_16 t199_21 (fun w =>
  s232_p4 K B1 t0 t4 t29 t30_16 t31_16 w) w) w) w)) w) ∧
  (ldn 2 t198 (fun t199_22 w =>
  ldn 2 t194 (fun t195_16 w =>
  stn 2 t30_16 t195_16 (fun w =>
  stn 2 t31_16 t199_22 (fun w =>
  s232_p4 K B1 t0 t4 t29 t30_16 t31_16 w) w) w) w) w)) w)) w)) w) ∧
  (ldn 2 t198 (fun t199_23 w =>
  (ixs 2 t4 t193 (fun t194_2 w =>
  (ldn 2 t194_2 (fun t195_17 w =>
  (nw 88 #[(.int .i64 0), (.int .i64 0)] (fun t30_17 w =>
  nw 88 #[(.int .i64 0), (.int .i64 0)] (fun t31_17 w =>
  stn 2 t30_17 t195_17 (fun w =>
  stn 2 t31_17 t199_23 (fun w =>
  s232_p4 K B1 t0 t4 t29 t30_17 t31_17 w) w) w) w) w) ∧
  (nw 88 #[(.int .i64 0), (.int .i64 0)] (fun t31_18 w =>
  nw 88 #[(.int .i64 0), (.int .i64 0)] (fun t30_18 w =>
  stn 2 t30_18 t195_17 (fun w =>
  stn 2 t31_18 t199_23 (fun w =>
  s232_p4 K B1 t0 t4 t29 t30_18 t31_18 w) w) w) w) w)) w) ∧
  (nw 88 #[(.int .i64 0), (.int .i64 0)] (fun t30_19 w =>
  (ldn 2 t194_2 (fun t195_18 w =>
  nw 88 #[(.int .i64 0), (.int .i64 0)] (fun t31_19 w =>
  stn 2 t30_19 t195_18 (fun w =>
  stn 2 t31_19 t199_23 (fun w =>
  s232_p4 K B1 t0 t4 t29 t30_19 t31_19 w) w) w) w) w) ∧
  (nw 88 #[(.int .i64 0), (.int .i64 0)] (fun t31_20 w =>
  ldn 2 t194_2 (fun t195_19 w =>
  stn 2 t30_19 t195_19 (fun w =>
  stn 2 t31_20 t199_23 (fun w =>
  s232_p4 K B1 t0 t4 t29 t30_19 t31_20 w) w) w) w) w)) w) ∧
  (nw 88 #[(.int .i64 0), (.int .i64 0)] (fun t31_21 w =>
  (ldn 2 t194_2 (fun t195_20 w =>
  nw 88 #[(.int .i64 0), (.int .i64 0)] (fun t30_20 w =>
  stn 2 t30_20 t195_20 (fun w =>
  stn 2 t31_21 t199_23 (fun w =>
  s232_p4 K B1 t0 t4 t29 t30_20 t31_21 w) w) w) w) w) ∧
  (nw 88 #[(.int .i64 0), (.int .i64 0)] (fun t30_21 w =>
  ldn 2 t194_2 (fun t195_21 w =>
  stn 2 t30_21 t195_21 (fun w =>
  stn 2 t31_21 t199_23 (fun w =>
  s232_p4 K B1 t0 t4 t29 t30_21 t31_21 w) w) w) w) w)) w)) w) ∧
  (nw 88 #[(.int .i64 0), (.int .i64 0)] (fun t30_22 w =>
  (ixs 2 t4 t193 (fun t194_3 w =>
  (ldn 2 t194_3 (fun t195_22 w =>
  nw 88 #[(.int .i64 0), (.int .i64 0)] (fun t31_22 w =>
  stn 2 t30_22 t195_22 (fun w =>
  stn 2 t31_22 t199_23 (fun w =>
  s232_p4 K B1 t0 t4 t29 t30_22 t31_22 w) w) w) w) w) ∧
  (nw 88 #[(.int .i64 0), (.int .i64 0)] (fun t31_23 w =>
  ldn 2 t194_3 (fun t195_23 w =>
  stn 2 t30_22 t195_23 (fun w =>
  stn 2 t31_23 t199_23 (fun w =>
  s232_p4 K B1 t0 t4 t29 t30_22 t31_23 w) w) w) w) w)) w) ∧
  (nw 88 #[(.int .i64 0), (.int .i64 0)] (fun t31_24 w =>
  ixs 2 t4 t193 (fun t194_4 w =>
  ldn 2 t194_4 (fun t195_24 w =>
  stn 2 t30_22 t195_24 (fun w =>
  stn 2 t31_24 t199_23 (fun w =>
  s232_p4 K B1 t0 t4 t29 t30_22 t31_24 w) w) w) w) w) w)) w) ∧
  (nw 88 #[(.int .i64 0), (.int .i64 0)] (fun t31_25 w =>
  (ixs 2 t4 t193 (fun t194_5 w =>
  (ldn 2 t194_5 (fun t195_25 w =>
  nw 88 #[(.int .i64 0), (.int .i64 0)] (fun t30_23 w =>
  stn 2 t30_23 t195_25 (fun w =>
  stn 2 t31_25 t199_23 (fun w =>
  s232_p4 K B1 t0 t4 t29 t30_23 t31_25 w) w) w) w) w) ∧
  (nw 88 #[(.int .i64 0), (.int .i64 0)] (fun t30_24 w =>
  ldn 2 t194_5 (fun t195_26 w =>
  stn 2 t30_24 t195_26 (fun w =>
  stn 2 t31_25 t199_23 (fun w =>
  s232_p4 K B1 t0 t4 t29 t30_24 t31_25 w) w) w) w) w)) w) ∧
  (nw 88 #[(.int .i64 0), (.int .i64 0)] (fun t30_25 w =>
  ixs 2 t4 t193 (fun t194_6 w =>
  ldn 2 t194_6 (fun t195_27 w =>
  stn 2 t30_25 t195_27 (fun w =>
  stn 2 t31_25 t199_23 (fun w =>
  s232_p4 K B1 t0 t4 t29 t30_25 t31_25 w) w) w) w) w) w)) w)) w) ∧
  (nw 88 #[(.int .i64 0), (.int .i64 0)] (fun t30_26 w =>
  (ixs 2 t4 t193 (fun t194_7 w =>
  (ldn 2 t194_7 (fun t195_28 w =>
  (ldn 2 t198 (fun t199_24 w =>
  nw 88 #[(.int .i64 0), (.int .i64 0)] (fun t31_26 w =>
  stn 2 t30_26 t195_28 (fun w =>
  stn 2 t31_26 t199_24 (fun w =>
  s232_p4 K B1 t0 t4 t29 t30_26 t31_26 w) w) w) w) w) ∧
  (nw 88 #[(.int .i64 0), (.int .i64 0)] (fun t31_27 w =>
  (ldn 2 t198 (fun t199_25 w =>
  stn 2 t30_26 t195_28 (fun w =>
  stn 2 t31_27 t199_25 (fun w =>
  s232_p4 K B1 t0 t4 t29 t30_26 t31_27 w) w) w) w) ∧
  (stn 2 t30_26 t195_28 (fun w =>
  ldn 2 t198 (fun t199_26 w =>
  stn 2 t31_27 t199_26 (fun w =>
  s232_p4 K B1 t0 t4 t29 t30_26 t31_27 w) w) w) w)) w)) w) ∧
  (ldn 2 t198 (fun t199_27 w =>
  (ldn 2 t194_7 (fun t195_29 w =>
  nw 88 #[(.int .i64 0), (.int .i64 0)] (fun t31_28 w =>
  stn 2 t30_26 t195_29 (fun w =>
  stn 2 t31_28 t199_27 (fun w =>
  s232_p4 K B1 t0 t4 t29 t30_26 t31_28 w) w) w) w) w) ∧
  (nw 88 #[(.int .i64 0), (.int .i64 0)] (fun t31_29 w =>
  ldn 2 t194_7 (fun t195_30 w =>
  stn 2 t30_26 t195_30 (fun w =>
  stn 2 t31_29 t199_27 (fun w =>
  s232_p4 K B1 t0 t4 t29 t30_26 t31_29 w) w) w) w) w)) w) ∧
  (nw 88 #[(.int .i64 0), (.int .i64 0)] (fun t31_30 w =>
  (ldn 2 t194_7 (fun t195_31 w =>
  (ldn 2 t198 (fun t199_28 w =>
  stn 2 t30_26 t195_31 (fun w =>
  stn 2 t31_30 t199_28 (fun w =>
  s232_p4 K B1 t0 t4 t29 t30_26 t31_30 w) w) w) w) ∧
  (stn 2 t30_26 t195_31 (fun w =>
  ldn 2 t198 (fun t199_29 w =>
  stn 2 t31_30 t199_29 (fun w =>
  s232_p4 K B1 t0 t4 t29 t30_26 t31_30 w) w) w) w)) w) ∧
  (ldn 2 t198 (fun t199_30 w =>
  ldn 2 t194_7 (fun t195_32 w =>
  stn 2 t30_26 t195_32 (fun w =>
  stn 2 t31_30 t199_30 (fun w =>
  s232_p4 K B1 t0 t4 t29 t30_26 t31_30 w) w) w) w) w)) w)) w) ∧
  (ldn 2 t198 (fun t199_31 w =>
  (ixs 2 t4 t193 (fun t194_8 w =>
  (ldn 2 t194_8 (fun t195_33 w =>
  nw 88 #[(.int .i64 0), (.int .i64 0)] (fun t31_31 w =>
  stn 2 t30_26 t195_33 (fun w =>
  stn 2 t31_31 t199_31 (fun w =>
  s232_p4 K B1 t0 t4 t29 t30_26 t31_31 w) w) w) w) w) ∧
  (nw 88 #[(.int .i64 0), (.int .i64 0)] (fun t31_32 w =>
  ldn 2 t194_8 (fun t195_34 w =>
  stn 2 t30_26 t195_34 (fun w =>
  stn 2 t31_32 t199_31 (fun w =>
  s232_p4 K B1 t0 t4 t29 t30_26 t31_32 w) w) w) w) w)) w) ∧
  (nw 88 #[(.int .i64 0), (.int .i64 0)] (fun t31_33 w =>
  ixs 2 t4 t193 (fun t194_9 w =>
  ldn 2 t194_9 (fun t195_35 w =>
  stn 2 t30_26 t195_35 (fun w =>
  stn 2 t31_33 t199_31 (fun w =>
  s232_p4 K B1 t0 t4 t29 t30_26 t31_33 w) w) w) w) w) w)) w) ∧
  (nw 88 #[(.int .i64 0), (.int .i64 0)] (fun t31_34 w =>
  (ixs 2 t4 t193 (fun t194_10 w =>
  (ldn 2 t194_10 (fun t195_36 w =>
  (ldn 2 t198 (fun t199_32 w =>
  stn 2 t30_26 t195_36 (fun w =>
  stn 2 t31_34 t199_32 (fun w =>
  s232_p4 K B1 t0 t4 t29 t30_26 t31_34 w) w) w) w) ∧
  (stn 2 t30_26 t195_36 (fun w =>
  ldn 2 t198 (fun t199_33 w =>
  stn 2 t31_34 t199_33 (fun w =>
  s232_p4 K B1 t0 t4 t29 t30_26 t31_34 w) w) w) w)) w) ∧
  (ldn 2 t198 (fun t199_34 w =>
  ldn 2 t194_10 (fun t195_37 w =>
  stn 2 t30_26 t195_37 (fun w =>
  stn 2 t31_34 t199_34 (fun w =>
  s232_p4 K B1 t0 t4 t29 t30_26 t31_34 w) w) w) w) w)) w) ∧
  (ldn 2 t198 (fun t199_35 w =>
  ixs 2 t4 t193 (fun t194_11 w =>
  ldn 2 t194_11 (fun t195_38 w =>
  stn 2 t30_26 t195_38 (fun w =>
  stn 2 t31_34 t199_35 (fun w =>
  s232_p4 K B1 t0 t4 t29 t30_26 t31_34 w) w) w) w) w) w)) w)) w) ∧
  (nw 88 #[(.int .i64 0), (.int .i64 0)] (fun t31_35 w =>
  (ixs 2 t4 t193 (fun t194_12 w =>
  (ldn 2 t194_12 (fun t195_39 w =>
  (ldn 2 t198 (fun t199_36 w =>
  nw 88 #[(.int .i64 0), (.int .i64 0)] (fun t30_27 w =>
  stn 2 t30_27 t195_39 (fun w =>
  stn 2 t31_35 t199_36 (fun w =>
  s232_p4 K B1 t0 t4 t29 t30_27 t31_35 w) w) w) w) w) ∧
  (nw 88 #[(.int .i64 0), (.int .i64 0)] (fun t30_28 w =>
  (ldn 2 t198 (fun t199_37 w =>
  stn 2 t30_28 t195_39 (fun w =>
  stn 2 t31_35 t199_37 (fun w =>
  s232_p4 K B1 t0 t4 t29 t30_28 t31_35 w) w) w) w) ∧
  (stn 2 t30_28 t195_39 (fun w =>
  ldn 2 t198 (fun t199_38 w =>
  stn 2 t31_35 t199_38 (fun w =>
  s232_p4 K B1 t0 t4 t29 t30_28 t31_35 w) w) w) w)) w)) w) ∧
  (ldn 2 t198 (fun t199_39 w =>
  (ldn 2 t194_12 (fun t195_40 w =>
  nw 88 #[(.int .i64 0), (.int .i64 0)] (fun t30_29 w =>
  stn 2 t30_29 t195_40 (fun w =>
  stn 2 t31_35 t199_39 (fun w =>
  s232_p4 K B1 t0 t4 t29 t30_29 t31_35 w) w) w) w) w) ∧
  (nw 88 #[(.int .i64 0), (.int .i64 0)] (fun t30_30 w =>
  ldn 2 t194_12 (fun t195_41 w =>
  stn 2 t30_30 t195_41 (fun w =>
  stn 2 t31_35 t199_39 (fun w =>
  s232_p4 K B1 t0 t4 t29 t30_30 t31_35 w) w) w) w) w)) w) ∧
  (nw 88 #[(.int .i64 0), (.int .i64 0)] (fun t30_31 w =>
  (ldn 2 t194_12 (fun t195_42 w =>
  (ldn 2 t198 (fun t199_40 w =>
  stn 2 t30_31 t195_42 (fun w =>
  stn 2 t31_35 t199_40 (fun w =>
  s232_p4 K B1 t0 t4 t29 t30_31 t31_35 w) w) w) w) ∧
  (stn 2 t30_31 t195_42 (fun w =>
  ldn 2 t198 (fun t199_41 w =>
  stn 2 t31_35 t199_41 (fun w =>
  s232_p4 K B1 t0 t4 t29 t30_31 t31_35 w) w) w) w)) w) ∧
  (ldn 2 t198 (fun t199_42 w =>
  ldn 2 t194_12 (fun t195_43 w =>
  stn 2 t30_31 t195_43 (fun w =>
  stn 2 t31_35 t199_42 (fun w =>
  s232_p4 K B1 t0 t4 t29 t30_31 t31_35 w) w) w) w) w)) w)) w) ∧
  (ldn 2 t198 (fun t199_43 w =>
  (ixs 2 t4 t193 (fun t194_13 w =>
  (ldn 2 t194_13 (fun t195_44 w =>
  nw 88 #[(.int .i64 0), (.int .i64 0)] (fun t30_32 w =>
  stn 2 t30_32 t195_44 (fun w =>
  stn 2 t31_35 t199_43 (fun w =>
  s232_p4 K B1 t0 t4 t29 t30_32 t31_35 w) w) w) w) w) ∧
  (nw 88 #[(.int .i64 0), (.int .i64 0)] (fun t30_33 w =>
  ldn 2 t194_13 (fun t195_45 w =>
  stn 2 t30_33 t195_45 (fun w =>
  stn 2 t31_35 t199_43 (fun w =>
  s232_p4 K B1 t0 t4 t29 t30_33 t31_35 w) w) w) w) w)) w) ∧
  (nw 88 #[(.int .i64 0), (.int .i64 0)] (fun t30_34 w =>
  ixs 2 t4 t193 (fun t194_14 w =>
  ldn 2 t194_14 (fun t195_46 w =>
  stn 2 t30_34 t195_46 (fun w =>
  stn 2 t31_35 t199_43 (fun w =>
  s232_p4 K B1 t0 t4 t29 t30_34 t31_35 w) w) w) w) w) w)) w) ∧
  (nw 88 #[(.int .i64 0), (.int .i64 0)] (fun t30_35 w =>
  (ixs 2 t4 t193 (fun t194_15 w =>
  (ldn 2 t194_15 (fun t195_47 w =>
  (ldn 2 t198 (fun t199_44 w =>
  stn 2 t30_35 t195_47 (fun w =>
  stn 2 t31_35 t199_44 (fun w =>
  s232_p4 K B1 t0 t4 t29 t30_35 t31_35 w) w) w) w) ∧
  (stn 2 t30_35 t195_47 (fun w =>
  ldn 2 t198 (fun t199_45 w =>
  stn 2 t31_35 t199_45 (fun w =>
  s232_p4 K B1 t0 t4 t29 t30_35 t31_35 w) w) w) w)) w) ∧
  (ldn 2 t198 (fun t199_46 w =>
  ldn 2 t194_15 (fun t195_48 w =>
  stn 2 t30_35 t195_48 (fun w =>
  stn 2 t31_35 t199_46 (fun w =>
  s232_p4 K B1 t0 t4 t29 t30_35 t31_35 w) w) w) w) w)) w) ∧
  (ldn 2 t198 (fun t199_47 w =>
  ixs 2 t4 t193 (fun t194_16 w =>
  ldn 2 t194_16 (fun t195_49 w =>
  stn 2 t30_35 t195_49 (fun w =>
  stn 2 t31_35 t199_47 (fun w =>
  s232_p4 K B1 t0 t4 t29 t30_35 t31_35 w) w) w) w) w) w)) w)) w)) w) ∧
  (ldn 2 t198 (fun t199_48 w =>
  (boI .sub t29 (.int .i64 1) (fun t193_2 w =>
  (ixs 2 t4 t193_2 (fun t194_17 w =>
  (ldn 2 t194_17 (fun t195_50 w =>
  (nw 88 #[(.int .i64 0), (.int .i64 0)] (fun t30_36 w =>
  nw 88 #[(.int .i64 0), (.int .i64 0)] (fun t31_36 w =>
  stn 2 t30_36 t195_50 (fun w =>
  stn 2 t31_36 t199_48 (fun w =>
  s232_p4 K B1 t0 t4 t29 t30_36 t31_36 w) w) w) w) w) ∧
  (nw 88 #[(.int .i64 0), (.int .i64 0)] (fun t31_37 w =>
  nw 88 #[(.int .i64 0), (.int .i64 0)] (fun t30_37 w =>
  stn 2 t30_37 t195_50 (fun w =>
  stn 2 t31_37 t199_48 (fun w =>
  s232_p4 K B1 t0 t4 t29 t30_37 t31_37 w) w) w) w) w)) w) ∧
  (nw 88 #[(.int .i64 0), (.int .i64 0)] (fun t30_38 w =>
  (ldn 2 t194_17 (fun t195_51 w =>
  nw 88 #[(.int .i64 0), (.int .i64 0)] (fun t31_38 w =>
  stn 2 t30_38 t195_51 (fun w =>
  stn 2 t31_38 t199_48 (fun w =>
  s232_p4 K B1 t0 t4 t29 t30_38 t31_38 w) w) w) w) w) ∧
  (nw 88 #[(.int .i64 0), (.int .i64 0)] (fun t31_39 w =>
  ldn 2 t194_17 (fun t195_52 w =>
  stn 2 t30_38 t195_52 (fun w =>
  stn 2 t31_39 t199_48 (fun w =>
  s232_p4 K B1 t0 t4 t29 t30_38 t31_39 w) w) w) w) w)) w) ∧
  (nw 88 #[(.int .i64 0), (.int .i64 0)] (fun t31_40 w =>
  (ldn 2 t194_17 (fun t195_53 w =>
  nw 88 #[(.int .i64 0), (.int .i64 0)] (fun t30_39 w =>
  stn 2 t30_39 t195_53 (fun w =>
  stn 2 t31_40 t199_48 (fun w =>
  s232_p4 K B1 t0 t4 t29 t30_39 t31_40 w) w) w) w) w) ∧
  (nw 88 #[(.int .i64 0), (.int .i64 0)] (fun t30_40 w =>
  ldn 2 t194_17 (fun t195_54 w =>
  stn 2 t30_40 t195_54 (fun w =>
  stn 2 t31_40 t199_48 (fun w =>
  s232_p4 K B1 t0 t4 t29 t30_40 t31_40 w) w) w) w) w)) w)) w) ∧
  (nw 88 #[(.int .i64 0), (.int .i64 0)] (fun t30_41 w =>
  (ixs 2 t4 t193_2 (fun t194_18 w =>
  (ldn 2 t194_18 (fun t195_55 w =>
  nw 88 #[(.int .i64 0), (.int .i64 0)] (fun t31_41 w =>
  stn 2 t30_41 t195_55 (fun w =>
  stn 2 t31_41 t199_48 (fun w =>
  s232_p4 K B1 t0 t4 t29 t30_41 t31_41 w) w) w) w) w) ∧
  (nw 88 #[(.int .i64 0), (.int .i64 0)] (fun t31_42 w =>
  ldn 2 t194_18 (fun t195_56 w =>
  stn 2 t30_41 t195_56 (fun w =>
  stn 2 t31_42 t199_48 (fun w =>
  s232_p4 K B1 t0 t4 t29 t30_41 t31_42 w) w) w) w) w)) w) ∧
  (nw 88 #[(.int .i64 0), (.int .i64 0)] (fun t31_43 w =>
  ixs 2 t4 t193_2 (fun t194_19 w =>
  ldn 2 t194_19 (fun t195_57 w =>
  stn 2 t30_41 t195_57 (fun w =>
  stn 2 t31_43 t199_48 (fun w =>
  s232_p4 K B1 t0 t4 t29 t30_41 t31_43 w) w) w) w) w) w)) w) ∧
  (nw 88 #[(.int .i64 0), (.int .i64 0)] (fun t31_44 w =>
  (ixs 2 t4 t193_2 (fun t194_20 w =>
  (ldn 2 t194_20 (fun t195_58 w =>
  nw 88 #[(.int .i64 0), (.int .i64 0)] (fun t30_42 w =>
  stn 2 t30_42 t195_58 (fun w =>
  stn 2 t31_44 t199_48 (fun w =>
  s232_p4 K B1 t0 t4 t29 t30_42 t31_44 w) w) w) w) w) ∧
  (nw 88 #[(.int .i64 0), (.int .i64 0)] (fun t30_43 w =>
  ldn 2 t194_20 (fun t195_59 w =>
  stn 2 t30_43 t195_59 (fun w =>
  stn 2 t31_44 t199_48 (fun w =>
  s232_p4 K B1 t0 t4 t29 t30_43 t31_44 w) w) w) w) w)) w) ∧
  (nw 88 #[(.int .i64 0), (.int .i64 0)] (fun t30_44 w =>
  ixs 2 t4 t193_2 (fun t194_21 w =>
  ldn 2 t194_21 (fun t195_60 w =>
  stn 2 t30_44 t195_60 (fun w =>
  stn 2 t31_44 t199_48 (fun w =>
  s232_p4 K B1 t0 t4 t29 t30_44 t31_44 w) w) w) w) w) w)) w)) w) ∧
  (nw 88 #[(.int .i64 0), (.int .i64 0)] (fun t30_45 w =>
  (boI .sub t29 (.int .i64 1) (fun t193_3 w =>
  (ixs 2 t4 t193_3 (fun t194_22 w =>
  (ldn 2 t194_22 (fun t195_61 w =>
  nw 88 #[(.int .i64 0), (.int .i64 0)] (fun t31_45 w =>
  stn 2 t30_45 t195_61 (fun w =>
  stn 2 t31_45 t199_48 (fun w =>
  s232_p4 K B1 t0 t4 t29 t30_45 t31_45 w) w) w) w) w) ∧
  (nw 88 #[(.int .i64 0), (.int .i64 0)] (fun t31_46 w =>
  ldn 2 t194_22 (fun t195_62 w =>
  stn 2 t30_45 t195_62 (fun w =>
  stn 2 t31_46 t199_48 (fun w =>
  s232_p4 K B1 t0 t4 t29 t30_45 t31_46 w) w) w) w) w)) w) ∧
  (nw 88 #[(.int .i64 0), (.int .i64 0)] (fun t31_47 w =>
  ixs 2 t4 t193_3 (fun t194_23 w =>
  ldn 2 t194_23 (fun t195_63 w =>
  stn 2 t30_45 t195_63 (fun w =>
  stn 2 t31_47 t199_48 (fun w =>
  s232_p4 K B1 t0 t4 t29 t30_45 t31_47 w) w) w) w) w) w)) w) ∧
  (nw 88 #[(.int .i64 0), (.int .i64 0)] (fun t31_48 w =>
  boI .sub t29 (.int .i64 1) (fun t193_4 w =>
  ixs 2 t4 t193_4 (fun t194_24 w =>
  ldn 2 t194_24 (fun t195_64 w =>
  stn 2 t30_45 t195_64 (fun w =>
  stn 2 t31_48 t199_48 (fun w =>
  s232_p4 K B1 t0 t4 t29 t30_45 t31_48 w) w) w) w) w) w) w)) w) ∧
  (nw 88 #[(.int .i64 0), (.int .i64 0)] (fun t31_49 w =>
  (boI .sub t29 (.int .i64 1) (fun t193_5 w =>
  (ixs 2 t4 t193_5 (fun t194_25 w =>
  (ldn 2 t194_25 (fun t195_65 w =>
  nw 88 #[(.int .i64 0), (.int .i64 0)] (fun t30_46 w =>
  stn 2 t30_46 t195_65 (fun w =>
  stn 2 t31_49 t199_48 (fun w =>
  s232_p4 K B1 t0 t4 t29 t30_46 t31_49 w) w) w) w) w) ∧
  (nw 88 #[(.int .i64 0), (.int .i64 0)] (fun t30_47 w =>
  ldn 2 t194_25 (fun t195_66 w =>
  stn 2 t30_47 t195_66 (fun w =>
  stn 2 t31_49 t199_48 (fun w =>
  s232_p4 K B1 t0 t4 t29 t30_47 t31_49 w) w) w) w) w)) w) ∧
  (nw 88 #[(.int .i64 0), (.int .i64 0)] (fun t30_48 w =>
  ixs 2 t4 t193_5 (fun t194_26 w =>
  ldn 2 t194_26 (fun t195_67 w =>
  stn 2 t30_48 t195_67 (fun w =>
  stn 2 t31_49 t199_48 (fun w =>
  s232_p4 K B1 t0 t4 t29 t30_48 t31_49 w) w) w) w) w) w)) w) ∧
  (nw 88 #[(.int .i64 0), (.int .i64 0)] (fun t30_49 w =>
  boI .sub t29 (.int .i64 1) (fun t193_6 w =>
  ixs 2 t4 t193_6 (fun t194_27 w =>
  ldn 2 t194_27 (fun t195_68 w =>
  stn 2 t30_49 t195_68 (fun w =>
  stn 2 t31_49 t199_48 (fun w =>
  s232_p4 K B1 t0 t4 t29 t30_49 t31_49 w) w) w) w) w) w) w)) w)) w) ∧
  (nw 88 #[(.int .i64 0), (.int .i64 0)] (fun t30_50 w =>
  (boI .sub t29 (.int .i64 1) (fun t193_7 w =>
  (ixs 2 t4 t193_7 (fun t194_28 w =>
  (ldn 2 t194_28 (fun t195_69 w =>
  (ldn 2 t198 (fun t199_49 w =>
  nw 88 #[(.int .i64 0), (.int .i64 0)] (fun t31_50 w =>
  stn 2 t30_50 t195_69 (fun w =>
  stn 2 t31_50 t199_49 (fun w =>
  s232_p4 K B1 t0 t4 t29 t30_50 t31_50 w) w) w) w) w) ∧
  (nw 88 #[(.int .i64 0), (.int .i64 0)] (fun t31_51 w =>
  (ldn 2 t198 (fun t199_50 w =>
  stn 2 t30_50 t195_69 (fun w =>
  stn 2 t31_51 t199_50 (fun w =>
  s232_p4 K B1 t0 t4 t29 t30_50 t31_51 w) w) w) w) ∧
  (stn 2 t30_50 t195_69 (fun w =>
  ldn 2 t198 (fun t199_51 w =>
  stn 2 t31_51 t199_51 (fun w =>
  s232_p4 K B1 t0 t4 t29 t30_50 t31_51 w) w) w) w)) w)) w) ∧
  (ldn 2 t198 (fun t199_52 w =>
  (ldn 2 t194_28 (fun t195_70 w =>
  nw 88 #[(.int .i64 0), (.int .i64 0)] (fun t31_52 w =>
  stn 2 t30_50 t195_70 (fun w =>
  stn 2 t31_52 t199_52 (fun w =>
  s232_p4 K B1 t0 t4 t29 t30_50 t31_52 w) w) w) w) w) ∧
  (nw 88 #[(.int .i64 0), (.int .i64 0)] (fun t31_53 w =>
  ldn 2 t194_28 (fun t195_71 w =>
  stn 2 t30_50 t195_71 (fun w =>
  stn 2 t31_53 t199_52 (fun w =>
  s232_p4 K B1 t0 t4 t29 t30_50 t31_53 w) w) w) w) w)) w) ∧
  (nw 88 #[(.int .i64 0), (.int .i64 0)] (fun t31_54 w =>
  (ldn 2 t194_28 (fun t195_72 w =>
  (ldn 2 t198 (fun t199_53 w =>
  stn 2 t30_50 t195_72 (fun w =>
  stn 2 t31_54 t199_53 (fun w =>
  s232_p4 K B1 t0 t4 t29 t30_50 t31_54 w) w) w) w) ∧
  (stn 2 t30_50 t195_72 (fun w =>
  ldn 2 t198 (fun t199_54 w =>
  stn 2 t31_54 t199_54 (fun w =>
  s232_p4 K B1 t0 t4 t29 t30_50 t31_54 w) w) w) w)) w) ∧
  (ldn 2 t198 (fun t199_55 w =>
  ldn 2 t194_28 (fun t195_73 w =>
  stn 2 t30_50 t195_73 (fun w =>
  stn 2 t31_54 t199_55 (fun w =>
  s232_p4 K B1 t0 t4 t29 t30_50 t31_54 w) w) w) w) w)) w)) w) ∧
  (ldn 2 t198 (fun t199_56 w =>
  (ixs 2 t4 t193_7 (fun t194_29 w =>
  (ldn 2 t194_29 (fun t195_74 w =>
  nw 88 #[(.int .i64 0), (.int .i64 0)] (fun t31_55 w =>
  stn 2 t30_50 t195_74 (fun w =>
  stn 2 t31_55 t199_56 (fun w =>
  s232_p4 K B1 t0 t4 t29 t30_50 t31_55 w) w) w) w) w) ∧
  (nw 88 #[(.int .i64 0), (.int .i64 0)] (fun t31_56 w =>
  ldn 2 t194_29 (fun t195_75 w =>
  stn 2 t30_50 t195_75 (fun w =>
  stn 2 t31_56 t199_56 (fun w =>
  s232_p4 K B1 t0 t4 t29 t30_50 t31_56 w) w) w) w) w)) w) ∧
  (nw 88 #[(.int .i64 0), (.int .i64 0)] (fun t31_57 w =>
  ixs 2 t4 t193_7 (fun t194_30 w =>
  ldn 2 t194_30 (fun t195_76 w =>
  stn 2 t30_50 t195_76 (fun w =>
  stn 2 t31_57 t199_56 (fun w =>
  s232_p4 K B1 t0 t4 t29 t30_50 t31_57 w) w) w) w) w) w)) w) ∧
  (nw 88 #[(.int .i64 0), (.int .i64 0)] (fun t31_58 w =>
  (ixs 2 t4 t193_7 (fun t194_31 w =>
  (ldn 2 t194_31 (fun t195_77 w =>
  (ldn 2 t198 (fun t199_57 w =>
  stn 2 t30_50 t195_77 (fun w =>
  stn 2 t31_58 t199_57 (fun w =>
  s232_p4 K B1 t0 t4 t29 t30_50 t31_58 w) w) w) w) ∧
  (stn 2 t30_50 t195_77 (fun w =>
  ldn 2 t198 (fun t199_58 w =>
  stn 2 t31_58 t199_58 (fun w =>
  s232_p4 K B1 t0 t4 t29 t30_50 t31_58 w) w) w) w)) w) ∧
  (ldn 2 t198 (fun t199_59 w =>
  ldn 2 t194_31 (fun t195_78 w =>
  stn 2 t30_50 t195_78 (fun w =>
  stn 2 t31_58 t199_59 (fun w =>
  s232_p4 K B1 t0 t4 t29 t30_50 t31_58 w) w) w) w) w)) w) ∧
  (ldn 2 t198 (fun t199_60 w =>
  ixs 2 t4 t193_7 (fun t194_32 w =>
  ldn 2 t194_32 (fun t195_79 w =>
  stn 2 t30_50 t195_79 (fun w =>
  stn 2 t31_58 t199_60 (fun w =>
  s232_p4 K B1 t0 t4 t29 t30_50 t31_58 w) w) w) w) w) w)) w)) w) ∧
  (ldn 2 t198 (fun t199_61 w =>
  (boI .sub t29 (.int .i64 1) (fun t193_8 w =>
  (ixs 2 t4 t193_8 (fun t194_33 w =>
  (ldn 2 t194_33 (fun t195_80 w =>
  nw 88 #[(.int .i64 0), (.int .i64 0)] (fun t31_59 w =>
  stn 2 t30_50 t195_80 (fun w =>
  stn 2 t31_59 t199_61 (fun w =>
  s232_p4 K B1 t0 t4 t29 t30_50 t31_59 w) w) w) w) w) ∧
  (nw 88 #[(.int .i64 0), (.int .i64 0)] (fun t31_60 w =>
  ldn 2 t194_33 (fun t195_81 w =>
  stn 2 t30_50 t195_81 (fun w =>
  stn 2 t31_60 t199_61 (fun w =>
  s232_p4 K B1 t0 t4 t29 t30_50 t31_60 w) w) w) w) w)) w) ∧
  (nw 88 #[(.int .i64 0), (.int .i64 0)] (fun t31_61 w =>
  ixs 2 t4 t193_8 (fun t194_34 w =>
  ldn 2 t194_34 (fun t195_82 w =>
  stn 2 t30_50 t195_82 (fun w =>
  stn 2 t31_61 t199_61 (fun w =>
  s232_p4 K B1 t0 t4 t29 t30_50 t31_61 w) w) w) w) w) w)) w) ∧
  (nw 88 #[(.int .i64 0), (.int .i64 0)] (fun t31_62 w =>
  boI .sub t29 (.int .i64 1) (fun t193_9 w =>
  ixs 2 t4 t193_9 (fun t194_35 w =>
  ldn 2 t194_35 (fun t195_83 w =>
  stn 2 t30_50 t195_83 (fun w =>
  stn 2 t31_62 t199_61 (fun w =>
  s232_p4 K B1 t0 t4 t29 t30_50 t31_62 w) w) w) w) w) w) w)) w) ∧
  (nw 88 #[(.int .i64 0), (.int .i64 0)] (fun t31_63 w =>
  (boI .sub t29 (.int .i64 1) (fun t193_10 w =>
  (ixs 2 t4 t193_10 (fun t194_36 w =>
  (ldn 2 t194_36 (fun t195_84 w =>
  (ldn 2 t198 (fun t199_62 w =>
  stn 2 t30_50 t195_84 (fun w =>
  stn 2 t31_63 t199_62 (fun w =>
  s232_p4 K B1 t0 t4 t29 t30_50 t31_63 w) w) w) w) ∧
  (stn 2 t30_50 t195_84 (fun w =>
  ldn 2 t198 (fun t199_63 w =>
  stn 2 t31_63 t199_63 (fun w =>
  s232_p4 K B1 t0 t4 t29 t30_50 t31_63 w) w) w) w)) w) ∧
  (ldn 2 t198 (fun t199_64 w =>
  ldn 2 t194_36 (fun t195_85 w =>
  stn 2 t30_50 t195_85 (fun w =>
  stn 2 t31_63 t199_64 (fun w =>
  s232_p4 K B1 t0 t4 t29 t30_50 t31_63 w) w) w) w) w)) w) ∧
  (ldn 2 t198 (fun t199_65 w =>
  ixs 2 t4 t193_10 (fun t194_37 w =>
  ldn 2 t194_37 (fun t195_86 w =>
  stn 2 t30_50 t195_86 (fun w =>
  stn 2 t31_63 t199_65 (fun w =>
  s232_p4 K B1 t0 t4 t29 t30_50 t31_63 w) w) w) w) w) w)) w) ∧
  (ldn 2 t198 (fun t199_66 w =>
  boI .sub t29 (.int .i64 1) (fun t193_11 w =>
  ixs 2 t4 t193_11 (fun t194_38 w =>
  ldn 2 t194_38 (fun t195_87 w =>
  stn 2 t30_50 t195_87 (fun w =>
  stn 2 t31_63 t199_66 (fun w =>
  s232_p4 K B1 t0 t4 t29 t30_50 t31_63 w) w) w) w) w) w) w)) w)) w) ∧
  (nw 88 #[(.int .i64 0), (.int .i64 0)] (fun t31_64 w =>
  (boI .sub t29 (.int .i64 1) (fun t193_12 w =>
  (ixs 2 t4 t193_12 (fun t194_39 w =>
  (ldn 2 t194_39 (fun t195_88 w =>
  (ldn 2 t198 (fun t199_67 w =>
  nw 88 #[(.int .i64 0), (.int .i64 0)] (fun t30_51 w =>
  stn 2 t30_51 t195_88 (fun w =>
  stn 2 t31_64 t199_67 (fun w =>
  s232_p4 K B1 t0 t4 t29 t30_51 t31_64 w) w) w) w) w) ∧
  (nw 88 #[(.int .i64 0), (.int .i64 0)] (fun t30_52 w =>
  (ldn 2 t198 (fun t199_68 w =>
  stn 2 t30_52 t195_88 (fun w =>
  stn 2 t31_64 t199_68 (fun w =>
  s232_p4 K B1 t0 t4 t29 t30_52 t31_64 w) w) w) w) ∧
  (stn 2 t30_52 t195_88 (fun w =>
  ldn 2 t198 (fun t199_69 w =>
  stn 2 t31_64 t199_69 (fun w =>
  s232_p4 K B1 t0 t4 t29 t30_52 t31_64 w) w) w) w)) w)) w) ∧
  (ldn 2 t198 (fun t199_70 w =>
  (ldn 2 t194_39 (fun t195_89 w =>
  nw 88 #[(.int .i64 0), (.int .i64 0)] (fun t30_53 w =>
  stn 2 t30_53 t195_89 (fun w =>
  stn 2 t31_64 t199_70 (fun w =>
  s232_p4 K B1 t0 t4 t29 t30_53 t31_64 w) w) w) w) w) ∧
  (nw 88 #[(.int .i64 0), (.int .i64 0)] (fun t30_54 w =>
  ldn 2 t194_39 (fun t195_90 w =>
  stn 2 t30_54 t195_90 (fun w =>
  stn 2 t31_64 t199_70 (fun w =>
  s232_p4 K B1 t0 t4 t29 t30_54 t31_64 w) w) w) w) w)) w) ∧
  (nw 88 #[(.int .i64 0), (.int .i64 0)] (fun t30_55 w =>
  (ldn 2 t194_39 (fun t195_91 w =>
  (ldn 2 t198 (fun t199_71 w =>
  stn 2 t30_55 t195_91 (fun w =>
  stn 2 t31_64 t199_71 (fun w =>
  s232_p4 K B1 t0 t4 t29 t30_55 t31_64 w) w) w) w) ∧
  (stn 2 t30_55 t195_91 (fun w =>
  ldn 2 t198 (fun t199_72 w =>
  stn 2 t31_64 t199_72 (fun w =>
  s232_p4 K B1 t0 t4 t29 t30_55 t31_64 w) w) w) w)) w) ∧
  (ldn 2 t198 (fun t199_73 w =>
  ldn 2 t194_39 (fun t195_92 w =>
  stn 2 t30_55 t195_92 (fun w =>
  stn 2 t31_64 t199_73 (fun w =>
  s232_p4 K B1 t0 t4 t29 t30_55 t31_64 w) w) w) w) w)) w)) w) ∧
  (ldn 2 t198 (fun t199_74 w =>
  (ixs 2 t4 t193_12 (fun t194_40 w =>
  (ldn 2 t194_40 (fun t195_93 w =>
  nw 88 #[(.int .i64 0), (.int .i64 0)] (fun t30_56 w =>
  stn 2 t30_56 t195_93 (fun w =>
  stn 2 t31_64 t199_74 (fun w =>
  s232_p4 K B1 t0 t4 t29 t30_56 t31_64 w) w) w) w) w) ∧
  (nw 88 #[(.int .i64 0), (.int .i64 0)] (fun t30_57 w =>
  ldn 2 t194_40 (fun t195_94 w =>
  stn 2 t30_57 t195_94 (fun w =>
  stn 2 t31_64 t199_74 (fun w =>
  s232_p4 K B1 t0 t4 t29 t30_57 t31_64 w) w) w) w) w)) w) ∧
  (nw 88 #[(.int .i64 0), (.int .i64 0)] (fun t30_58 w =>
  ixs 2 t4 t193_12 (fun t194_41 w =>
  ldn 2 t194_41 (fun t195_95 w =>
  stn 2 t30_58 t195_95 (fun w =>
  stn 2 t31_64 t199_74 (fun w =>
  s232_p4 K B1 t0 t4 t29 t30_58 t31_64 w) w) w) w) w) w)) w) ∧
  (nw 88 #[(.int .i64 0), (.int .i64 0)] (fun t30_59 w =>
  (ixs 2 t4 t193_12 (fun t194_42 w =>
  (ldn 2 t194_42 (fun t195_96 w =>
  (ldn 2 t198 (fun t199_75 w =>
  stn 2 t30_59 t195_96 (fun w =>
  stn 2 t31_64 t199_75 (fun w =>
  s232_p4 K B1 t0 t4 t29 t30_59 t31_64 w) w) w) w) ∧
  (stn 2 t30_59 t195_96 (fun w =>
  ldn 2 t198 (fun t199_76 w =>
  stn 2 t31_64 t199_76 (fun w =>
  s232_p4 K B1 t0 t4 t29 t30_59 t31_64 w) w) w) w)) w) ∧
  (ldn 2 t198 (fun t199_77 w =>
  ldn 2 t194_42 (fun t195_97 w =>
  stn 2 t30_59 t195_97 (fun w =>
  stn 2 t31_64 t199_77 (fun w =>
  s232_p4 K B1 t0 t4 t29 t30_59 t31_64 w) w) w) w) w)) w) ∧
  (ldn 2 t198 (fun t199_78 w =>
  ixs 2 t4 t193_12 (fun t194_43 w =>
  ldn 2 t194_43 (fun t195_98 w =>
  stn 2 t30_59 t195_98 (fun w =>
  stn 2 t31_64 t199_78 (fun w =>
  s232_p4 K B1 t0 t4 t29 t30_59 t31_64 w) w) w) w) w) w)) w)) w) ∧
  (ldn 2 t198 (fun t199_79 w =>
  (boI .sub t29 (.int .i64 1) (fun t193_13 w =>
  (ixs 2 t4 t193_13 (fun t194_44 w =>
  (ldn 2 t194_44 (fun t195_99 w =>
  nw 88 #[(.int .i64 0), (.int .i64 0)] (fun t30_60 w =>
  stn 2 t30_60 t195_99 (fun w =>
  stn 2 t31_64 t199_79 (fun w =>
  s232_p4 K B1 t0 t4 t29 t30_60 t31_64 w) w) w) w) w) ∧
  (nw 88 #[(.int .i64 0), (.int .i64 0)] (fun t30_61 w =>
  ldn 2 t194_44 (fun t195_100 w =>
  stn 2 t30_61 t195_100 (fun w =>
  stn 2 t31_64 t199_79 (fun w =>
  s232_p4 K B1 t0 t4 t29 t30_61 t31_64 w) w) w) w) w)) w) ∧
  (nw 88 #[(.int .i64 0), (.int .i64 0)] (fun t30_62 w =>
  ixs 2 t4 t193_13 (fun t194_45 w =>
  ldn 2 t194_45 (fun t195_101 w =>
  stn 2 t30_62 t195_101 (fun w =>
  stn 2 t31_64 t199_79 (fun w =>
  s232_p4 K B1 t0 t4 t29 t30_62 t31_64 w) w) w) w) w) w)) w) ∧
  (nw 88 #[(.int .i64 0), (.int .i64 0)] (fun t30_63 w =>
  boI .sub t29 (.int .i64 1) (fun t193_14 w =>
  ixs 2 t4 t193_14 (fun t194_46 w =>
  ldn 2 t194_46 (fun t195_102 w =>
  stn 2 t30_63 t195_102 (fun w =>
  stn 2 t31_64 t199_79 (fun w =>
  s232_p4 K B1 t0 t4 t29 t30_63 t31_64 w) w) w) w) w) w) w)) w) ∧
  (nw 88 #[(.int .i64 0), (.int .i64 0)] (fun t30_64 w =>
  (boI .sub t29 (.int .i64 1) (fun t193_15 w =>
  (ixs 2 t4 t193_15 (fun t194_47 w =>
  (ldn 2 t194_47 (fun t195_103 w =>
  (ldn 2 t198 (fun t199_80 w =>
  stn 2 t30_64 t195_103 (fun w =>
  stn 2 t31_64 t199_80 (fun w =>
  s232_p4 K B1 t0 t4 t29 t30_64 t31_64 w) w) w) w) ∧
  (stn 2 t30_64 t195_103 (fun w =>
  ldn 2 t198 (fun t199_81 w =>
  stn 2 t31_64 t199_81 (fun w =>
  s232_p4 K B1 t0 t4 t29 t30_64 t31_64 w) w) w) w)) w) ∧
  (ldn 2 t198 (fun t199_82 w =>
  ldn 2 t194_47 (fun t195_104 w =>
  stn 2 t30_64 t195_104 (fun w =>
  stn 2 t31_64 t199_82 (fun w =>
  s232_p4 K B1 t0 t4 t29 t30_64 t31_64 w) w) w) w) w)) w) ∧
  (ldn 2 t198 (fun t199_83 w =>
  ixs 2 t4 t193_15 (fun t194_48 w =>
  ldn 2 t194_48 (fun t195_105 w =>
  stn 2 t30_64 t195_105 (fun w =>
  stn 2 t31_64 t199_83 (fun w =>
  s232_p4 K B1 t0 t4 t29 t30_64 t31_64 w) w) w) w) w) w)) w) ∧
  (ldn 2 t198 (fun t199_84 w =>
  boI .sub t29 (.int .i64 1) (fun t193_16 w =>
  ixs 2 t4 t193_16 (fun t194_49 w =>
  ldn 2 t194_49 (fun t195_106 w =>
  stn 2 t30_64 t195_106 (fun w =>
  stn 2 t31_64 t199_84 (fun w =>
  s232_p4 K B1 t0 t4 t29 t30_64 t31_64 w) w) w) w) w) w) w)) w)) w)) w0
def s232_p5 (K : Value → World → Prop) (B1 : List Value → World → Prop) (t0 t4 t29 : Value) (w : World) : Prop := s232_p5_d K B1 t0 t4 t29 (drw w) (drw w)
def s232_p5_den (K : Value → World → Prop) (M1 : (Nat → Value) → World → Prop) : (Nat → Value) → World → Prop := denL Tryz.prog [(cd (Tryz.f232.body.getD .skip) [1, 1, 1, 1, 1, 0, 1, 0, 0, 1, 0, 0, 0])] (s232_p4_den K M1) (fun i => (bif Nat.beq i 15 then (s232_p2_den K M1) else (bif Nat.beq i 14 then (s232_p1_den K) else (fun _ _ => False)))) (s232_R K)
theorem s232_p5_ok (K : Value → World → Prop) (B1 : List Value → World → Prop) (s : Nat → Value) (w : World) (h : s232_p5 K B1 (s 0) (s 4) (s 29) w) : Tr (s232_p5_den K (fun s w => B1 [s 0, s 4, s 29] w) s w) :=
  tr_draw (P := Tryz.prog) (ops := (ro (cd (Tryz.f232.body.getD .skip) [1, 1, 1, 1, 1, 0, 1, 0, 0, 1, 0, 0, 0]))) (ms := [0, 0, 2, 7, 15, 0, 0, 96, 224, 0, 0, 1567, 4095]) (cs := [0, 1, 5, 6, 7]) (N := (fun s w => s232_p4 K B1 (s 0) (s 4) (s 29) (s 30) (s 31) w)) (N' := (s232_p4_den K (fun s w => B1 [s 0, s 4, s 29] w))) (s := s) (w := w) (p := s232_p5 K B1 (s 0) (s 4) (s 29) w) (q := s232_p5_den K (fun s w => B1 [s 0, s 4, s 29] w) s w) (by kernel_rfl) (by kernel_rfl) (fun s w h => s232_p4_ok K B1 s w @h) (by kernel_rfl) (by kernel_rfl) @h
def s232_p6 (K : Value → World → Prop) (B1 : List Value → World → Prop) (t0 t4 t29 : Value) (w : World) : Prop :=
  lnS t4 (fun t187 w =>
  boI .lss t29 t187 (fun t188 w =>
  ifb t188
  (s232_p5 K B1 t0 t4 t29 w)
  (s232_p1 K w)) w) w
def s232_p6_den (K : Value → World → Prop) (M1 : (Nat → Value) → World → Prop) : (Nat → Value) → World → Prop := denL Tryz.prog [(cd (Tryz.f232.body.getD .skip) [1, 1, 1, 1, 1, 0, 1, 0, 0, 0, 0]), (cd (Tryz.f232.body.getD .skip) [1, 1, 1, 1, 1, 0, 1, 0, 0, 0, 1])] (s232_p5_den K M1) (fun i => (bif Nat.beq i 14 then (s232_p1_den K) else (fun _ _ => False))) (s232_R K)
theorem s232_p6_ok (K : Value → World → Prop) (B1 : List Value → World → Prop) (s : Nat → Value) (w : World) (h : s232_p6 K B1 (s 0) (s 4) (s 29) w) : Tr (s232_p6_den K (fun s w => B1 [s 0, s 4, s 29] w) s w) :=
  tr_simple (P := Tryz.prog) (codes := [(cd (Tryz.f232.body.getD .skip) [1, 1, 1, 1, 1, 0, 1, 0, 0, 0, 0]), (cd (Tryz.f232.body.getD .skip) [1, 1, 1, 1, 1, 0, 1, 0, 0, 0, 1])]) (N := (fun s w => s232_p5 K B1 (s 0) (s 4) (s 29) w)) (N' := (s232_p5_den K (fun s w => B1 [s 0, s 4, s 29] w))) (X := (fun i => (bif Nat.beq i 14 then (fun s w => s232_p1 K w) else (fun _ _ => False)))) (X' := (fun i => (bif Nat.beq i 14 then (s232_p1_den K) else (fun _ _ => False)))) (R := s232_R K) (s := s) (w := w) (p := s232_p6 K B1 (s 0) (s 4) (s 29) w) (q := s232_p6_den K (fun s w => B1 [s 0, s 4, s 29] w) s w) (fun s w h => s232_p5_ok K B1 s w @h) (fun i => (tr_bif (fun s w h => s232_p1_ok K s w @h) tr_id)) (by kernel_rfl) (by kernel_rfl) @h
def s232_p7_F (K : Value → World → Prop) (B1 : List Value → World → Prop) (l : List Value) (w : World) : Prop :=
  match l with
  | [t0, t4, t29] => s232_p6 K B1 t0 t4 t29 w
  | _ => False
theorem s232_p7_Fe {K : Value → World → Prop} {B1 : List Value → World → Prop} {t0 t4 t29 : Value} {w : World} : s232_p7_F K B1 [t0, t4, t29] w = s232_p6 K B1 t0 t4 t29 w := by kernel_rfl
def s232_p7 (K : Value → World → Prop) (t0 t4 t29 : Value) (w : World) : Prop :=
  LoopL (s232_p7_F K) [t0, t4, t29] w
def s232_p7_den (K : Value → World → Prop) : (Nat → Value) → World → Prop := fun s w => LoopP (fun M1 s w => s232_p6_den K M1 s w) s w
theorem s232_p7_ok (K : Value → World → Prop) (s : Nat → Value) (w : World) (h : s232_p7 K (s 0) (s 4) (s 29) w) : Tr (s232_p7_den K s w) :=
  tr_loop (G := fun N' s w => s232_p6_den K N' s w) (F := s232_p7_F K) (sel := fun s => [s 0, s 4, s 29]) (s := s) (w := w) (p := s232_p7 K (s 0) (s 4) (s 29) w) (q := s232_p7_den K s w) (fun B s w h => s232_p6_ok K B s w @h) (by kernel_rfl) (by kernel_rfl) @h
def s232_p8 (K : Value → World → Prop) (t0 t4 : Value) (w : World) : Prop :=
  s232_p7 K t0 t4 (.int .i64 1) w
def s232_p8_den (K : Value → World → Prop) : (Nat → Value) → World → Prop := denL Tryz.prog [(cd (Tryz.f232.body.getD .skip) [1, 1, 1, 1, 1, 0, 0])] (s232_p7_den K) (fun i => (fun _ _ => False)) (s232_R K)
theorem s232_p8_ok (K : Value → World → Prop) (s : Nat → Value) (w : World) (h : s232_p8 K (s 0) (s 4) w) : Tr (s232_p8_den K s w) :=
  tr_simple (P := Tryz.prog) (codes := [(cd (Tryz.f232.body.getD .skip) [1, 1, 1, 1, 1, 0, 0])]) (N := (fun s w => s232_p7 K (s 0) (s 4) (s 29) w)) (N' := (s232_p7_den K)) (X := (fun i => (fun _ _ => False))) (X' := (fun i => (fun _ _ => False))) (R := s232_R K) (s := s) (w := w) (p := s232_p8 K (s 0) (s 4) w) (q := s232_p8_den K s w) (fun s w h => s232_p7_ok K s w @h) (fun i => tr_id) (by kernel_rfl) (by kernel_rfl) @h
def s232_p9 (K : Value → World → Prop) (B1 : List Value → World → Prop) (t0 t2 t3 t4 t5 t143 t144 t145 : Value) (w : World) : Prop :=
  boI .add t145 (.int .i64 1) (fun t184 w =>
  B1 [t0, t2, t3, t4, t5, t143, t144, t184] w) w
def s232_p9_den (K : Value → World → Prop) (M1 : (Nat → Value) → World → Prop) : (Nat → Value) → World → Prop := denL Tryz.prog [(cd (Tryz.f232.body.getD .skip) [1, 1, 1, 1, 0, 1, 0, 0, 1, 1, 1])] M1 (fun i => (bif Nat.beq i 10 then (s232_p8_den K) else (fun _ _ => False))) (s232_R K)
theorem s232_p9_ok (K : Value → World → Prop) (B1 : List Value → World → Prop) (s : Nat → Value) (w : World) (h : s232_p9 K B1 (s 0) (s 2) (s 3) (s 4) (s 5) (s 143) (s 144) (s 145) w) : Tr (s232_p9_den K (fun s w => B1 [s 0, s 2, s 3, s 4, s 5, s 143, s 144, s 145] w) s w) :=
  tr_simple (P := Tryz.prog) (codes := [(cd (Tryz.f232.body.getD .skip) [1, 1, 1, 1, 0, 1, 0, 0, 1, 1, 1])]) (N := (fun s w => B1 [s 0, s 2, s 3, s 4, s 5, s 143, s 144, s 145] w)) (N' := (fun s w => B1 [s 0, s 2, s 3, s 4, s 5, s 143, s 144, s 145] w)) (X := (fun i => (bif Nat.beq i 10 then (fun s w => s232_p8 K (s 0) (s 4) w) else (fun _ _ => False)))) (X' := (fun i => (bif Nat.beq i 10 then (s232_p8_den K) else (fun _ _ => False)))) (R := s232_R K) (s := s) (w := w) (p := s232_p9 K B1 (s 0) (s 2) (s 3) (s 4) (s 5) (s 143) (s 144) (s 145) w) (q := s232_p9_den K (fun s w => B1 [s 0, s 2, s 3, s 4, s 5, s 143, s 144, s 145] w) s w) tr_id (fun i => (tr_bif (fun s w h => s232_p8_ok K s w @h) tr_id)) (by kernel_rfl) (by kernel_rfl) @h
def s232_p10 (K : Value → World → Prop) (B1 : List Value → World → Prop) (t0 t2 t3 t4 t5 t143 t144 t145 t183 : Value) (w : World) : Prop :=
  ifb t183
  (K (.int .i64 6) w)
  (s232_p9 K B1 t0 t2 t3 t4 t5 t143 t144 t145 w)
def s232_p10_den (K : Value → World → Prop) (M1 : (Nat → Value) → World → Prop) : (Nat → Value) → World → Prop := denL Tryz.prog [(cd (Tryz.f232.body.getD .skip) [1, 1, 1, 1, 0, 1, 0, 0, 1, 1, 0, 0, 1, 1, 1, 1])] (s232_p9_den K M1) (fun i => (bif Nat.beq i 11 then (s232_p9_den K M1) else (bif Nat.beq i 10 then (s232_p8_den K) else (fun _ _ => False)))) (s232_R K)
theorem s232_p10_ok (K : Value → World → Prop) (B1 : List Value → World → Prop) (s : Nat → Value) (w : World) (h : s232_p10 K B1 (s 0) (s 2) (s 3) (s 4) (s 5) (s 143) (s 144) (s 145) (s 183) w) : Tr (s232_p10_den K (fun s w => B1 [s 0, s 2, s 3, s 4, s 5, s 143, s 144, s 145] w) s w) :=
  tr_simple (P := Tryz.prog) (codes := [(cd (Tryz.f232.body.getD .skip) [1, 1, 1, 1, 0, 1, 0, 0, 1, 1, 0, 0, 1, 1, 1, 1])]) (N := (fun s w => s232_p9 K B1 (s 0) (s 2) (s 3) (s 4) (s 5) (s 143) (s 144) (s 145) w)) (N' := (s232_p9_den K (fun s w => B1 [s 0, s 2, s 3, s 4, s 5, s 143, s 144, s 145] w))) (X := (fun i => (bif Nat.beq i 11 then (fun s w => s232_p9 K B1 (s 0) (s 2) (s 3) (s 4) (s 5) (s 143) (s 144) (s 145) w) else (bif Nat.beq i 10 then (fun s w => s232_p8 K (s 0) (s 4) w) else (fun _ _ => False))))) (X' := (fun i => (bif Nat.beq i 11 then (s232_p9_den K (fun s w => B1 [s 0, s 2, s 3, s 4, s 5, s 143, s 144, s 145] w)) else (bif Nat.beq i 10 then (s232_p8_den K) else (fun _ _ => False))))) (R := s232_R K) (s := s) (w := w) (p := s232_p10 K B1 (s 0) (s 2) (s 3) (s 4) (s 5) (s 143) (s 144) (s 145) (s 183) w) (q := s232_p10_den K (fun s w => B1 [s 0, s 2, s 3, s 4, s 5, s 143, s 144, s 145] w) s w) (fun s w h => s232_p9_ok K B1 s w @h) (fun i => (tr_bif (fun s w h => s232_p9_ok K B1 s w @h) (tr_bif (fun s w h => s232_p8_ok K s w @h) tr_id))) (by kernel_rfl) (by kernel_rfl) @h
def s232_p11_d (K : Value → World → Prop) (B1 : List Value → World → Prop) (t0 t2 t3 t4 t5 t25 t26 t143 t144 t145 : Value) (w0 w : World) : Prop :=
  nck t0 (fun t172 _ =>
  fd 0 t172 (fun t173 _ =>
  fd 0 t173 (fun t174 _ =>
  ld1 t174 (fun t175 _ =>
  fd 0 t25 (fun t176 _ =>
  ld1 t176 (fun t177 _ =>
  ixs 5 t175 t177 (fun t179 _ =>
  fd 2 t179 (fun t180 _ =>
  ixa 3 1 t180 t2 (fun t181 _ =>
  ld1 t181 (fun t182 _ =>
  boI .gtr t26 t182 (fun t183 _ =>
  s232_p10 K B1 t0 t2 t3 t4 t5 t143 t144 t145 t183 w) w0) w0) w0) w0) w0) w0) w0) w0) w0) w0) w0
def s232_p11 (K : Value → World → Prop) (B1 : List Value → World → Prop) (t0 t2 t3 t4 t5 t25 t26 t143 t144 t145 : Value) (w : World) : Prop := s232_p11_d K B1 t0 t2 t3 t4 t5 t25 t26 t143 t144 t145 (drw w) (drw w)
def s232_p11_den (K : Value → World → Prop) (M1 : (Nat → Value) → World → Prop) : (Nat → Value) → World → Prop := denL Tryz.prog [(cd (Tryz.f232.body.getD .skip) [1, 1, 1, 1, 0, 1, 0, 0, 1, 1, 0, 0, 1, 1, 1, 0])] (s232_p10_den K M1) (fun i => (bif Nat.beq i 11 then (s232_p9_den K M1) else (bif Nat.beq i 10 then (s232_p8_den K) else (fun _ _ => False)))) (s232_R K)
theorem s232_p11_ok (K : Value → World → Prop) (B1 : List Value → World → Prop) (s : Nat → Value) (w : World) (h : s232_p11 K B1 (s 0) (s 2) (s 3) (s 4) (s 5) (s 25) (s 26) (s 143) (s 144) (s 145) w) : Tr (s232_p11_den K (fun s w => B1 [s 0, s 2, s 3, s 4, s 5, s 143, s 144, s 145] w) s w) :=
  tr_draw (P := Tryz.prog) (ops := (ro (cd (Tryz.f232.body.getD .skip) [1, 1, 1, 1, 0, 1, 0, 0, 1, 1, 0, 0, 1, 1, 1, 0]))) (ms := [0, 0, 2, 6, 14, 30, 0, 64, 0, 254, 766, 2046, 4094, 8191]) (cs := [0, 1, 2, 3, 4, 5, 6, 7, 8, 9, 10, 11, 12, 13]) (N := (fun s w => s232_p10 K B1 (s 0) (s 2) (s 3) (s 4) (s 5) (s 143) (s 144) (s 145) (s 183) w)) (N' := (s232_p10_den K (fun s w => B1 [s 0, s 2, s 3, s 4, s 5, s 143, s 144, s 145] w))) (s := s) (w := w) (p := s232_p11 K B1 (s 0) (s 2) (s 3) (s 4) (s 5) (s 25) (s 26) (s 143) (s 144) (s 145) w) (q := s232_p11_den K (fun s w => B1 [s 0, s 2, s 3, s 4, s 5, s 143, s 144, s 145] w) s w) (by kernel_rfl) (by kernel_rfl) (fun s w h => s232_p10_ok K B1 s w @h) (by kernel_rfl) (by kernel_rfl) @h
def s232_p12 (K : Value → World → Prop) (B1 : List Value → World → Prop) (B2 : List Value → World → Prop) (t0 t2 t3 t4 t5 t25 t26 t143 t144 t145 t157 t158 t159 : Value) (w : World) : Prop :=
  boI .add t159 (.int .i64 1) (fun t169 w =>
  B2 [t0, t2, t3, t4, t5, t25, t26, t143, t144, t145, t157, t158, t169] w) w
def s232_p12_den (K : Value → World → Prop) (M1 : (Nat → Value) → World → Prop) (M2 : (Nat → Value) → World → Prop) : (Nat → Value) → World → Prop := denL Tryz.prog [(cd (Tryz.f232.body.getD .skip) [1, 1, 1, 1, 0, 1, 0, 0, 1, 1, 0, 0, 1, 1, 0, 1, 0, 0, 1, 1, 1])] M2 (fun i => (bif Nat.beq i 12 then (s232_p11_den K M1) else (bif Nat.beq i 11 then (s232_p9_den K M1) else (bif Nat.beq i 10 then (s232_p8_den K) else (fun _ _ => False))))) (s232_R K)
theorem s232_p12_ok (K : Value → World → Prop) (B1 : List Value → World → Prop) (B2 : List Value → World → Prop) (s : Nat → Value) (w : World) (h : s232_p12 K B1 B2 (s 0) (s 2) (s 3) (s 4) (s 5) (s 25) (s 26) (s 143) (s 144) (s 145) (s 157) (s 158) (s 159) w) : Tr (s232_p12_den K (fun s w => B1 [s 0, s 2, s 3, s 4, s 5, s 143, s 144, s 145] w) (fun s w => B2 [s 0, s 2, s 3, s 4, s 5, s 25, s 26, s 143, s 144, s 145, s 157, s 158, s 159] w) s w) :=
  tr_simple (P := Tryz.prog) (codes := [(cd (Tryz.f232.body.getD .skip) [1, 1, 1, 1, 0, 1, 0, 0, 1, 1, 0, 0, 1, 1, 0, 1, 0, 0, 1, 1, 1])]) (N := (fun s w => B2 [s 0, s 2, s 3, s 4, s 5, s 25, s 26, s 143, s 144, s 145, s 157, s 158, s 159] w)) (N' := (fun s w => B2 [s 0, s 2, s 3, s 4, s 5, s 25, s 26, s 143, s 144, s 145, s 157, s 158, s 159] w)) (X := (fun i => (bif Nat.beq i 12 then (fun s w => s232_p11 K B1 (s 0) (s 2) (s 3) (s 4) (s 5) (s 25) (s 26) (s 143) (s 144) (s 145) w) else (bif Nat.beq i 11 then (fun s w => s232_p9 K B1 (s 0) (s 2) (s 3) (s 4) (s 5) (s 143) (s 144) (s 145) w) else (bif Nat.beq i 10 then (fun s w => s232_p8 K (s 0) (s 4) w) else (fun _ _ => False)))))) (X' := (fun i => (bif Nat.beq i 12 then (s232_p11_den K (fun s w => B1 [s 0, s 2, s 3, s 4, s 5, s 143, s 144, s 145] w)) else (bif Nat.beq i 11 then (s232_p9_den K (fun s w => B1 [s 0, s 2, s 3, s 4, s 5, s 143, s 144, s 145] w)) else (bif Nat.beq i 10 then (s232_p8_den K) else (fun _ _ => False)))))) (R := s232_R K) (s := s) (w := w) (p := s232_p12 K B1 B2 (s 0) (s 2) (s 3) (s 4) (s 5) (s 25) (s 26) (s 143) (s 144) (s 145) (s 157) (s 158) (s 159) w) (q := s232_p12_den K (fun s w => B1 [s 0, s 2, s 3, s 4, s 5, s 143, s 144, s 145] w) (fun s w => B2 [s 0, s 2, s 3, s 4, s 5, s 25, s 26, s 143, s 144, s 145, s 157, s 158, s 159] w) s w) tr_id (fun i => (tr_bif (fun s w h => s232_p11_ok K B1 s w @h) (tr_bif (fun s w h => s232_p9_ok K B1 s w @h) (tr_bif (fun s w h => s232_p8_ok K s w @h) tr_id)))) (by kernel_rfl) (by kernel_rfl) @h
def s232_p13 (K : Value → World → Prop) (B1 : List Value → World → Prop) (B2 : List Value → World → Prop) (t0 t2 t3 t4 t5 t25 t26 t143 t144 t145 t157 t158 t159 : Value) (w : World) : Prop :=
  boI .lss t159 t158 (fun t160 w =>
  ifb t160
  (ixs 2 t157 t159 (fun t161 w =>
  ldn 2 t161 (fun t162 w =>
  nw 88 #[(.int .i64 0), (.int .i64 0)] (fun t28 w =>
  stn 2 t28 t162 (fun w =>
  ldn 2 t28 (fun t163 w =>
  ldn 2 t25 (fun t164 w =>
  bor Tryz.prog .eql 88 (.tmp 163) (.tmp 164) t163 t164 (fun t165 w =>
  ifb t165
  (boI .add t26 t3 (fun t168 w =>
  s232_p12 K B1 B2 t0 t2 t3 t4 t5 t25 t168 t143 t144 t145 t157 t158 t159 w) w)
  (s232_p12 K B1 B2 t0 t2 t3 t4 t5 t25 t26 t143 t144 t145 t157 t158 t159 w)) w) w) w) w) w) w) w)
  (s232_p11 K B1 t0 t2 t3 t4 t5 t25 t26 t143 t144 t145 w)) w
def s232_p13_den (K : Value → World → Prop) (M1 : (Nat → Value) → World → Prop) (M2 : (Nat → Value) → World → Prop) : (Nat → Value) → World → Prop := denL Tryz.prog [(cd (Tryz.f232.body.getD .skip) [1, 1, 1, 1, 0, 1, 0, 0, 1, 1, 0, 0, 1, 1, 0, 1, 0, 0, 0]), (cd (Tryz.f232.body.getD .skip) [1, 1, 1, 1, 0, 1, 0, 0, 1, 1, 0, 0, 1, 1, 0, 1, 0, 0, 1, 0]), (cd (Tryz.f232.body.getD .skip) [1, 1, 1, 1, 0, 1, 0, 0, 1, 1, 0, 0, 1, 1, 0, 1, 0, 0, 1, 1, 0])] (s232_p12_den K M1 M2) (fun i => (bif Nat.beq i 12 then (s232_p11_den K M1) else (bif Nat.beq i 11 then (s232_p9_den K M1) else (bif Nat.beq i 10 then (s232_p8_den K) else (fun _ _ => False))))) (s232_R K)
theorem s232_p13_ok (K : Value → World → Prop) (B1 : List Value → World → Prop) (B2 : List Value → World → Prop) (s : Nat → Value) (w : World) (h : s232_p13 K B1 B2 (s 0) (s 2) (s 3) (s 4) (s 5) (s 25) (s 26) (s 143) (s 144) (s 145) (s 157) (s 158) (s 159) w) : Tr (s232_p13_den K (fun s w => B1 [s 0, s 2, s 3, s 4, s 5, s 143, s 144, s 145] w) (fun s w => B2 [s 0, s 2, s 3, s 4, s 5, s 25, s 26, s 143, s 144, s 145, s 157, s 158, s 159] w) s w) :=
  tr_simple (P := Tryz.prog) (codes := [(cd (Tryz.f232.body.getD .skip) [1, 1, 1, 1, 0, 1, 0, 0, 1, 1, 0, 0, 1, 1, 0, 1, 0, 0, 0]), (cd (Tryz.f232.body.getD .skip) [1, 1, 1, 1, 0, 1, 0, 0, 1, 1, 0, 0, 1, 1, 0, 1, 0, 0, 1, 0]), (cd (Tryz.f232.body.getD .skip) [1, 1, 1, 1, 0, 1, 0, 0, 1, 1, 0, 0, 1, 1, 0, 1, 0, 0, 1, 1, 0])]) (N := (fun s w => s232_p12 K B1 B2 (s 0) (s 2) (s 3) (s 4) (s 5) (s 25) (s 26) (s 143) (s 144) (s 145) (s 157) (s 158) (s 159) w)) (N' := (s232_p12_den K (fun s w => B1 [s 0, s 2, s 3, s 4, s 5, s 143, s 144, s 145] w) (fun s w => B2 [s 0, s 2, s 3, s 4, s 5, s 25, s 26, s 143, s 144, s 145, s 157, s 158, s 159] w))) (X := (fun i => (bif Nat.beq i 12 then (fun s w => s232_p11 K B1 (s 0) (s 2) (s 3) (s 4) (s 5) (s 25) (s 26) (s 143) (s 144) (s 145) w) else (bif Nat.beq i 11 then (fun s w => s232_p9 K B1 (s 0) (s 2) (s 3) (s 4) (s 5) (s 143) (s 144) (s 145) w) else (bif Nat.beq i 10 then (fun s w => s232_p8 K (s 0) (s 4) w) else (fun _ _ => False)))))) (X' := (fun i => (bif Nat.beq i 12 then (s232_p11_den K (fun s w => B1 [s 0, s 2, s 3, s 4, s 5, s 143, s 144, s 145] w)) else (bif Nat.beq i 11 then (s232_p9_den K (fun s w => B1 [s 0, s 2, s 3, s 4, s 5, s 143, s 144, s 145] w)) else (bif Nat.beq i 10 then (s232_p8_den K) else (fun _ _ => False)))))) (R := s232_R K) (s := s) (w := w) (p := s232_p13 K B1 B2 (s 0) (s 2) (s 3) (s 4) (s 5) (s 25) (s 26) (s 143) (s 144) (s 145) (s 157) (s 158) (s 159) w) (q := s232_p13_den K (fun s w => B1 [s 0, s 2, s 3, s 4, s 5, s 143, s 144, s 145] w) (fun s w => B2 [s 0, s 2, s 3, s 4, s 5, s 25, s 26, s 143, s 144, s 145, s 157, s 158, s 159] w) s w) (fun s w h => s232_p12_ok K B1 B2 s w @h) (fun i => (tr_bif (fun s w h => s232_p11_ok K B1 s w @h) (tr_bif (fun s w h => s232_p9_ok K B1 s w @h) (tr_bif (fun s w h => s232_p8_ok K s w @h) tr_id)))) (by kernel_rfl) (by kernel_rfl) @h
def s232_p14_F (K : Value → World → Prop) (B1 : List Value → World → Prop) (B2 : List Value → World → Prop) (l : List Value) (w : World) : Prop :=
  match l with
  | [t0, t2, t3, t4, t5, t25, t26, t143, t144, t145, t157, t158, t159] => s232_p13 K B1 B2 t0 t2 t3 t4 t5 t25 t26 t143 t144 t145 t157 t158 t159 w
  | _ => False
theorem s232_p14_Fe {K : Value → World → Prop} {B1 : List Value → World → Prop} {B2 : List Value → World → Prop} {t0 t2 t3 t4 t5 t25 t26 t143 t144 t145 t157 t158 t159 : Value} {w : World} : s232_p14_F K B1 B2 [t0, t2, t3, t4, t5, t25, t26, t143, t144, t145, t157, t158, t159] w = s232_p13 K B1 B2 t0 t2 t3 t4 t5 t25 t26 t143 t144 t145 t157 t158 t159 w := by kernel_rfl
def s232_p14 (K : Value → World → Prop) (B1 : List Value → World → Prop) (t0 t2 t3 t4 t5 t25 t26 t143 t144 t145 t157 t158 t159 : Value) (w : World) : Prop :=
  LoopL (s232_p14_F K B1) [t0, t2, t3, t4, t5, t25, t26, t143, t144, t145, t157, t158, t159] w
def s232_p14_den (K : Value → World → Prop) (M1 : (Nat → Value) → World → Prop) : (Nat → Value) → World → Prop := fun s w => LoopP (fun M2 s w => s232_p13_den K M1 M2 s w) s w
theorem s232_p14_ok (K : Value → World → Prop) (B1 : List Value → World → Prop) (s : Nat → Value) (w : World) (h : s232_p14 K B1 (s 0) (s 2) (s 3) (s 4) (s 5) (s 25) (s 26) (s 143) (s 144) (s 145) (s 157) (s 158) (s 159) w) : Tr (s232_p14_den K (fun s w => B1 [s 0, s 2, s 3, s 4, s 5, s 143, s 144, s 145] w) s w) :=
  tr_loop (G := fun N' s w => s232_p13_den K (fun s w => B1 [s 0, s 2, s 3, s 4, s 5, s 143, s 144, s 145] w) N' s w) (F := s232_p14_F K B1) (sel := fun s => [s 0, s 2, s 3, s 4, s 5, s 25, s 26, s 143, s 144, s 145, s 157, s 158, s 159]) (s := s) (w := w) (p := s232_p14 K B1 (s 0) (s 2) (s 3) (s 4) (s 5) (s 25) (s 26) (s 143) (s 144) (s 145) (s 157) (s 158) (s 159) w) (q := s232_p14_den K (fun s w => B1 [s 0, s 2, s 3, s 4, s 5, s 143, s 144, s 145] w) s w) (fun B s w h => s232_p13_ok K B1 B s w @h) (by kernel_rfl) (by kernel_rfl) @h
def s232_p15 (K : Value → World → Prop) (B1 : List Value → World → Prop) (t0 t2 t3 t4 t5 t143 t144 t145 : Value) (w : World) : Prop :=
  ixs 2 t143 t145 (fun t147 w =>
  ldn 2 t147 (fun t148 w =>
  nw 88 #[(.int .i64 0), (.int .i64 0)] (fun t25 w =>
  stn 2 t25 t148 (fun w =>
  fd 0 t25 (fun t150 w =>
  ld1 t150 (fun t151 w =>
  fd 1 t25 (fun t152 w =>
  ld1 t152 (fun t153 w =>
  cl Tryz.prog 229 #[t0, t151, t153, t2, t5] (fun t156 w =>
  lnS t4 (fun t158 w =>
  s232_p14 K B1 t0 t2 t3 t4 t5 t25 t156 t143 t144 t145 t4 t158 (.int .i64 0) w) w) w) w) w) w) w) w) w) w) w
def s232_p15_den (K : Value → World → Prop) (M1 : (Nat → Value) → World → Prop) : (Nat → Value) → World → Prop := denL Tryz.prog [(cd (Tryz.f232.body.getD .skip) [1, 1, 1, 1, 0, 1, 0, 0, 1, 1, 0, 0, 0]), (cd (Tryz.f232.body.getD .skip) [1, 1, 1, 1, 0, 1, 0, 0, 1, 1, 0, 0, 1, 0]), (cd (Tryz.f232.body.getD .skip) [1, 1, 1, 1, 0, 1, 0, 0, 1, 1, 0, 0, 1, 1, 0, 0])] (s232_p14_den K M1) (fun i => (bif Nat.beq i 11 then (s232_p9_den K M1) else (bif Nat.beq i 10 then (s232_p8_den K) else (fun _ _ => False)))) (s232_R K)
theorem s232_p15_ok (K : Value → World → Prop) (B1 : List Value → World → Prop) (s : Nat → Value) (w : World) (h : s232_p15 K B1 (s 0) (s 2) (s 3) (s 4) (s 5) (s 143) (s 144) (s 145) w) : Tr (s232_p15_den K (fun s w => B1 [s 0, s 2, s 3, s 4, s 5, s 143, s 144, s 145] w) s w) :=
  tr_simple (P := Tryz.prog) (codes := [(cd (Tryz.f232.body.getD .skip) [1, 1, 1, 1, 0, 1, 0, 0, 1, 1, 0, 0, 0]), (cd (Tryz.f232.body.getD .skip) [1, 1, 1, 1, 0, 1, 0, 0, 1, 1, 0, 0, 1, 0]), (cd (Tryz.f232.body.getD .skip) [1, 1, 1, 1, 0, 1, 0, 0, 1, 1, 0, 0, 1, 1, 0, 0])]) (N := (fun s w => s232_p14 K B1 (s 0) (s 2) (s 3) (s 4) (s 5) (s 25) (s 26) (s 143) (s 144) (s 145) (s 157) (s 158) (s 159) w)) (N' := (s232_p14_den K (fun s w => B1 [s 0, s 2, s 3, s 4, s 5, s 143, s 144, s 145] w))) (X := (fun i => (bif Nat.beq i 11 then (fun s w => s232_p9 K B1 (s 0) (s 2) (s 3) (s 4) (s 5) (s 143) (s 144) (s 145) w) else (bif Nat.beq i 10 then (fun s w => s232_p8 K (s 0) (s 4) w) else (fun _ _ => False))))) (X' := (fun i => (bif Nat.beq i 11 then (s232_p9_den K (fun s w => B1 [s 0, s 2, s 3, s 4, s 5, s 143, s 144, s 145] w)) else (bif Nat.beq i 10 then (s232_p8_den K) else (fun _ _ => False))))) (R := s232_R K) (s := s) (w := w) (p := s232_p15 K B1 (s 0) (s 2) (s 3) (s 4) (s 5) (s 143) (s 144) (s 145) w) (q := s232_p15_den K (fun s w => B1 [s 0, s 2, s 3, s 4, s 5, s 143, s 144, s 145] w) s w) (fun s w h => s232_p14_ok K B1 s w @h) (fun i => (tr_bif (fun s w h => s232_p9_ok K B1 s w @h) (tr_bif (fun s w h => s232_p8_ok K s w @h) tr_id))) (by kernel_rfl) (by kernel_rfl) @h
def s232_p16 (K : Value → World → Prop) (B1 : List Value → World → Prop) (t0 t2 t3 t4 t5 t143 t144 t145 : Value) (w : World) : Prop :=
  boI .lss t145 t144 (fun t146 w =>
  ifb t146
  (s232_p15 K B1 t0 t2 t3 t4 t5 t143 t144 t145 w)
  (s232_p8 K t0 t4 w)) w
def s232_p16_den (K : Value → World → Prop) (M1 : (Nat → Value) → World → Prop) : (Nat → Value) → World → Prop := denL Tryz.prog [(cd (Tryz.f232.body.getD .skip) [1, 1, 1, 1, 0, 1, 0, 0, 0]), (cd (Tryz.f232.body.getD .skip) [1, 1, 1, 1, 0, 1, 0, 0, 1, 0])] (s232_p15_den K M1) (fun i => (bif Nat.beq i 10 then (s232_p8_den K) else (fun _ _ => False))) (s232_R K)
theorem s232_p16_ok (K : Value → World → Prop) (B1 : List Value → World → Prop) (s : Nat → Value) (w : World) (h : s232_p16 K B1 (s 0) (s 2) (s 3) (s 4) (s 5) (s 143) (s 144) (s 145) w) : Tr (s232_p16_den K (fun s w => B1 [s 0, s 2, s 3, s 4, s 5, s 143, s 144, s 145] w) s w) :=
  tr_simple (P := Tryz.prog) (codes := [(cd (Tryz.f232.body.getD .skip) [1, 1, 1, 1, 0, 1, 0, 0, 0]), (cd (Tryz.f232.body.getD .skip) [1, 1, 1, 1, 0, 1, 0, 0, 1, 0])]) (N := (fun s w => s232_p15 K B1 (s 0) (s 2) (s 3) (s 4) (s 5) (s 143) (s 144) (s 145) w)) (N' := (s232_p15_den K (fun s w => B1 [s 0, s 2, s 3, s 4, s 5, s 143, s 144, s 145] w))) (X := (fun i => (bif Nat.beq i 10 then (fun s w => s232_p8 K (s 0) (s 4) w) else (fun _ _ => False)))) (X' := (fun i => (bif Nat.beq i 10 then (s232_p8_den K) else (fun _ _ => False)))) (R := s232_R K) (s := s) (w := w) (p := s232_p16 K B1 (s 0) (s 2) (s 3) (s 4) (s 5) (s 143) (s 144) (s 145) w) (q := s232_p16_den K (fun s w => B1 [s 0, s 2, s 3, s 4, s 5, s 143, s 144, s 145] w) s w) (fun s w h => s232_p15_ok K B1 s w @h) (fun i => (tr_bif (fun s w h => s232_p8_ok K s w @h) tr_id)) (by kernel_rfl) (by kernel_rfl) @h
def s232_p17_F (K : Value → World → Prop) (B1 : List Value → World → Prop) (l : List Value) (w : World) : Prop :=
  match l with
  | [t0, t2, t3, t4, t5, t143, t144, t145] => s232_p16 K B1 t0 t2 t3 t4 t5 t143 t144 t145 w
  | _ => False
theorem s232_p17_Fe {K : Value → World → Prop} {B1 : List Value → World → Prop} {t0 t2 t3 t4 t5 t143 t144 t145 : Value} {w : World} : s232_p17_F K B1 [t0, t2, t3, t4, t5, t143, t144, t145] w = s232_p16 K B1 t0 t2 t3 t4 t5 t143 t144 t145 w := by kernel_rfl
def s232_p17 (K : Value → World → Prop) (t0 t2 t3 t4 t5 t143 t144 t145 : Value) (w : World) : Prop :=
  LoopL (s232_p17_F K) [t0, t2, t3, t4, t5, t143, t144, t145] w
def s232_p17_den (K : Value → World → Prop) : (Nat → Value) → World → Prop := fun s w => LoopP (fun M1 s w => s232_p16_den K M1 s w) s w
theorem s232_p17_ok (K : Value → World → Prop) (s : Nat → Value) (w : World) (h : s232_p17 K (s 0) (s 2) (s 3) (s 4) (s 5) (s 143) (s 144) (s 145) w) : Tr (s232_p17_den K s w) :=
  tr_loop (G := fun N' s w => s232_p16_den K N' s w) (F := s232_p17_F K) (sel := fun s => [s 0, s 2, s 3, s 4, s 5, s 143, s 144, s 145]) (s := s) (w := w) (p := s232_p17 K (s 0) (s 2) (s 3) (s 4) (s 5) (s 143) (s 144) (s 145) w) (q := s232_p17_den K s w) (fun B s w h => s232_p16_ok K B s w @h) (by kernel_rfl) (by kernel_rfl) @h
def s232_p18 (K : Value → World → Prop) (t0 t2 t3 t4 t5 : Value) (w : World) : Prop :=
  lnS t4 (fun t144 w =>
  s232_p17 K t0 t2 t3 t4 t5 t4 t144 (.int .i64 0) w) w
def s232_p18_den (K : Value → World → Prop) : (Nat → Value) → World → Prop := denL Tryz.prog [(cd (Tryz.f232.body.getD .skip) [1, 1, 1, 1, 0, 0])] (s232_p17_den K) (fun i => (fun _ _ => False)) (s232_R K)
theorem s232_p18_ok (K : Value → World → Prop) (s : Nat → Value) (w : World) (h : s232_p18 K (s 0) (s 2) (s 3) (s 4) (s 5) w) : Tr (s232_p18_den K s w) :=
  tr_simple (P := Tryz.prog) (codes := [(cd (Tryz.f232.body.getD .skip) [1, 1, 1, 1, 0, 0])]) (N := (fun s w => s232_p17 K (s 0) (s 2) (s 3) (s 4) (s 5) (s 143) (s 144) (s 145) w)) (N' := (s232_p17_den K)) (X := (fun i => (fun _ _ => False))) (X' := (fun i => (fun _ _ => False))) (R := s232_R K) (s := s) (w := w) (p := s232_p18 K (s 0) (s 2) (s 3) (s 4) (s 5) w) (q := s232_p18_den K s w) (fun s w h => s232_p17_ok K s w @h) (fun i => tr_id) (by kernel_rfl) (by kernel_rfl) @h
def s232_p19 (K : Value → World → Prop) (B1 : List Value → World → Prop) (t0 t2 t3 t4 t5 t76 t77 t78 : Value) (w : World) : Prop :=
  boI .add t78 (.int .i64 1) (fun t142 w =>
  B1 [t0, t2, t3, t4, t5, t76, t77, t142] w) w
def s232_p19_den (K : Value → World → Prop) (M1 : (Nat → Value) → World → Prop) : (Nat → Value) → World → Prop := denL Tryz.prog [(cd (Tryz.f232.body.getD .skip) [1, 1, 1, 0, 1, 0, 0, 1, 1, 1])] M1 (fun i => (bif Nat.beq i 4 then (s232_p18_den K) else (fun _ _ => False))) (s232_R K)
theorem s232_p19_ok (K : Value → World → Prop) (B1 : List Value → World → Prop) (s : Nat → Value) (w : World) (h : s232_p19 K B1 (s 0) (s 2) (s 3) (s 4) (s 5) (s 76) (s 77) (s 78) w) : Tr (s232_p19_den K (fun s w => B1 [s 0, s 2, s 3, s 4, s 5, s 76, s 77, s 78] w) s w) :=
  tr_simple (P := Tryz.prog) (codes := [(cd (Tryz.f232.body.getD .skip) [1, 1, 1, 0, 1, 0, 0, 1, 1, 1])]) (N := (fun s w => B1 [s 0, s 2, s 3, s 4, s 5, s 76, s 77, s 78] w)) (N' := (fun s w => B1 [s 0, s 2, s 3, s 4, s 5, s 76, s 77, s 78] w)) (X := (fun i => (bif Nat.beq i 4 then (fun s w => s232_p18 K (s 0) (s 2) (s 3) (s 4) (s 5) w) else (fun _ _ => False)))) (X' := (fun i => (bif Nat.beq i 4 then (s232_p18_den K) else (fun _ _ => False)))) (R := s232_R K) (s := s) (w := w) (p := s232_p19 K B1 (s 0) (s 2) (s 3) (s 4) (s 5) (s 76) (s 77) (s 78) w) (q := s232_p19_den K (fun s w => B1 [s 0, s 2, s 3, s 4, s 5, s 76, s 77, s 78] w) s w) tr_id (fun i => (tr_bif (fun s w h => s232_p18_ok K s w @h) tr_id)) (by kernel_rfl) (by kernel_rfl) @h
def s232_p20 (K : Value → World → Prop) (B1 : List Value → World → Prop) (B2 : List Value → World → Prop) (t0 t2 t3 t4 t5 t18 t19 t20 t76 t77 t78 : Value) (w : World) : Prop :=
  boI .add t20 (.int .i64 1) (fun t101 w =>
  B2 [t0, t2, t3, t4, t5, t18, t19, t101, t76, t77, t78] w) w
def s232_p20_den (K : Value → World → Prop) (M1 : (Nat → Value) → World → Prop) (M2 : (Nat → Value) → World → Prop) : (Nat → Value) → World → Prop := denL Tryz.prog [(cd (Tryz.f232.body.getD .skip) [1, 1, 1, 0, 1, 0, 0, 1, 1, 0, 0, 1, 1, 1, 0, 0, 1, 1])] M2 (fun i => (bif Nat.beq i 6 then (s232_p19_den K M1) else (bif Nat.beq i 5 then (s232_p19_den K M1) else (bif Nat.beq i 4 then (s232_p18_den K) else (fun _ _ => False))))) (s232_R K)
theorem s232_p20_ok (K : Value → World → Prop) (B1 : List Value → World → Prop) (B2 : List Value → World → Prop) (s : Nat → Value) (w : World) (h : s232_p20 K B1 B2 (s 0) (s 2) (s 3) (s 4) (s 5) (s 18) (s 19) (s 20) (s 76) (s 77) (s 78) w) : Tr (s232_p20_den K (fun s w => B1 [s 0, s 2, s 3, s 4, s 5, s 76, s 77, s 78] w) (fun s w => B2 [s 0, s 2, s 3, s 4, s 5, s 18, s 19, s 20, s 76, s 77, s 78] w) s w) :=
  tr_simple (P := Tryz.prog) (codes := [(cd (Tryz.f232.body.getD .skip) [1, 1, 1, 0, 1, 0, 0, 1, 1, 0, 0, 1, 1, 1, 0, 0, 1, 1])]) (N := (fun s w => B2 [s 0, s 2, s 3, s 4, s 5, s 18, s 19, s 20, s 76, s 77, s 78] w)) (N' := (fun s w => B2 [s 0, s 2, s 3, s 4, s 5, s 18, s 19, s 20, s 76, s 77, s 78] w)) (X := (fun i => (bif Nat.beq i 6 then (fun s w => s232_p19 K B1 (s 0) (s 2) (s 3) (s 4) (s 5) (s 76) (s 77) (s 78) w) else (bif Nat.beq i 5 then (fun s w => s232_p19 K B1 (s 0) (s 2) (s 3) (s 4) (s 5) (s 76) (s 77) (s 78) w) else (bif Nat.beq i 4 then (fun s w => s232_p18 K (s 0) (s 2) (s 3) (s 4) (s 5) w) else (fun _ _ => False)))))) (X' := (fun i => (bif Nat.beq i 6 then (s232_p19_den K (fun s w => B1 [s 0, s 2, s 3, s 4, s 5, s 76, s 77, s 78] w)) else (bif Nat.beq i 5 then (s232_p19_den K (fun s w => B1 [s 0, s 2, s 3, s 4, s 5, s 76, s 77, s 78] w)) else (bif Nat.beq i 4 then (s232_p18_den K) else (fun _ _ => False)))))) (R := s232_R K) (s := s) (w := w) (p := s232_p20 K B1 B2 (s 0) (s 2) (s 3) (s 4) (s 5) (s 18) (s 19) (s 20) (s 76) (s 77) (s 78) w) (q := s232_p20_den K (fun s w => B1 [s 0, s 2, s 3, s 4, s 5, s 76, s 77, s 78] w) (fun s w => B2 [s 0, s 2, s 3, s 4, s 5, s 18, s 19, s 20, s 76, s 77, s 78] w) s w) tr_id (fun i => (tr_bif (fun s w h => s232_p19_ok K B1 s w @h) (tr_bif (fun s w h => s232_p19_ok K B1 s w @h) (tr_bif (fun s w h => s232_p18_ok K s w @h) tr_id)))) (by kernel_rfl) (by kernel_rfl) @h
def s232_p21 (K : Value → World → Prop) (B1 : List Value → World → Prop) (B2 : List Value → World → Prop) (t0 t2 t3 t4 t5 t18 t19 t20 t21 t76 t77 t78 : Value) (w : World) : Prop :=
  fd 0 t19 (fun t139 w =>
  ld1 t139 (fun t140 w =>
  boI .gtr t21 t140 (fun t141 w =>
  ifb t141
  (K (.int .i64 5) w)
  (s232_p20 K B1 B2 t0 t2 t3 t4 t5 t18 t19 t20 t76 t77 t78 w)) w) w) w
def s232_p21_den (K : Value → World → Prop) (M1 : (Nat → Value) → World → Prop) (M2 : (Nat → Value) → World → Prop) : (Nat → Value) → World → Prop := denL Tryz.prog [(cd (Tryz.f232.body.getD .skip) [1, 1, 1, 0, 1, 0, 0, 1, 1, 0, 0, 1, 1, 1, 0, 0, 1, 0, 0, 1, 1, 0]), (cd (Tryz.f232.body.getD .skip) [1, 1, 1, 0, 1, 0, 0, 1, 1, 0, 0, 1, 1, 1, 0, 0, 1, 0, 0, 1, 1, 1])] (s232_p20_den K M1 M2) (fun i => (bif Nat.beq i 7 then (s232_p20_den K M1 M2) else (bif Nat.beq i 6 then (s232_p19_den K M1) else (bif Nat.beq i 5 then (s232_p19_den K M1) else (bif Nat.beq i 4 then (s232_p18_den K) else (fun _ _ => False)))))) (s232_R K)
theorem s232_p21_ok (K : Value → World → Prop) (B1 : List Value → World → Prop) (B2 : List Value → World → Prop) (s : Nat → Value) (w : World) (h : s232_p21 K B1 B2 (s 0) (s 2) (s 3) (s 4) (s 5) (s 18) (s 19) (s 20) (s 21) (s 76) (s 77) (s 78) w) : Tr (s232_p21_den K (fun s w => B1 [s 0, s 2, s 3, s 4, s 5, s 76, s 77, s 78] w) (fun s w => B2 [s 0, s 2, s 3, s 4, s 5, s 18, s 19, s 20, s 76, s 77, s 78] w) s w) :=
  tr_simple (P := Tryz.prog) (codes := [(cd (Tryz.f232.body.getD .skip) [1, 1, 1, 0, 1, 0, 0, 1, 1, 0, 0, 1, 1, 1, 0, 0, 1, 0, 0, 1, 1, 0]), (cd (Tryz.f232.body.getD .skip) [1, 1, 1, 0, 1, 0, 0, 1, 1, 0, 0, 1, 1, 1, 0, 0, 1, 0, 0, 1, 1, 1])]) (N := (fun s w => s232_p20 K B1 B2 (s 0) (s 2) (s 3) (s 4) (s 5) (s 18) (s 19) (s 20) (s 76) (s 77) (s 78) w)) (N' := (s232_p20_den K (fun s w => B1 [s 0, s 2, s 3, s 4, s 5, s 76, s 77, s 78] w) (fun s w => B2 [s 0, s 2, s 3, s 4, s 5, s 18, s 19, s 20, s 76, s 77, s 78] w))) (X := (fun i => (bif Nat.beq i 7 then (fun s w => s232_p20 K B1 B2 (s 0) (s 2) (s 3) (s 4) (s 5) (s 18) (s 19) (s 20) (s 76) (s 77) (s 78) w) else (bif Nat.beq i 6 then (fun s w => s232_p19 K B1 (s 0) (s 2) (s 3) (s 4) (s 5) (s 76) (s 77) (s 78) w) else (bif Nat.beq i 5 then (fun s w => s232_p19 K B1 (s 0) (s 2) (s 3) (s 4) (s 5) (s 76) (s 77) (s 78) w) else (bif Nat.beq i 4 then (fun s w => s232_p18 K (s 0) (s 2) (s 3) (s 4) (s 5) w) else (fun _ _ => False))))))) (X' := (fun i => (bif Nat.beq i 7 then (s232_p20_den K (fun s w => B1 [s 0, s 2, s 3, s 4, s 5, s 76, s 77, s 78] w) (fun s w => B2 [s 0, s 2, s 3, s 4, s 5, s 18, s 19, s 20, s 76, s 77, s 78] w)) else (bif Nat.beq i 6 then (s232_p19_den K (fun s w => B1 [s 0, s 2, s 3, s 4, s 5, s 76, s 77, s 78] w)) else (bif Nat.beq i 5 then (s232_p19_den K (fun s w => B1 [s 0, s 2, s 3, s 4, s 5, s 76, s 77, s 78] w)) else (bif Nat.beq i 4 then (s232_p18_den K) else (fun _ _ => False))))))) (R := s232_R K) (s := s) (w := w) (p := s232_p21 K B1 B2 (s 0) (s 2) (s 3) (s 4) (s 5) (s 18) (s 19) (s 20) (s 21) (s 76) (s 77) (s 78) w) (q := s232_p21_den K (fun s w => B1 [s 0, s 2, s 3, s 4, s 5, s 76, s 77, s 78] w) (fun s w => B2 [s 0, s 2, s 3, s 4, s 5, s 18, s 19, s 20, s 76, s 77, s 78] w) s w) (fun s w h => s232_p20_ok K B1 B2 s w @h) (fun i => (tr_bif (fun s w h => s232_p20_ok K B1 B2 s w @h) (tr_bif (fun s w h => s232_p19_ok K B1 s w @h) (tr_bif (fun s w h => s232_p19_ok K B1 s w @h) (tr_bif (fun s w h => s232_p18_ok K s w @h) tr_id))))) (by kernel_rfl) (by kernel_rfl) @h
def s232_p22 (K : Value → World → Prop) (B1 : List Value → World → Prop) (B2 : List Value → World → Prop) (B3 : List Value → World → Prop) (t0 t2 t3 t4 t5 t18 t19 t20 t21 t76 t77 t78 t108 t109 t110 : Value) (w : World) : Prop :=
  boI .add t110 (.int .i64 1) (fun t137 w =>
  B3 [t0, t2, t3, t4, t5, t18, t19, t20, t21, t76, t77, t78, t108, t109, t137] w) w
def s232_p22_den (K : Value → World → Prop) (M1 : (Nat → Value) → World → Prop) (M2 : (Nat → Value) → World → Prop) (M3 : (Nat → Value) → World → Prop) : (Nat → Value) → World → Prop := denL Tryz.prog [(cd (Tryz.f232.body.getD .skip) [1, 1, 1, 0, 1, 0, 0, 1, 1, 0, 0, 1, 1, 1, 0, 0, 1, 0, 0, 1, 0, 1, 0, 0, 1, 1, 1])] M3 (fun i => (bif Nat.beq i 8 then (s232_p21_den K M1 M2) else (bif Nat.beq i 7 then (s232_p20_den K M1 M2) else (bif Nat.beq i 6 then (s232_p19_den K M1) else (bif Nat.beq i 5 then (s232_p19_den K M1) else (bif Nat.beq i 4 then (s232_p18_den K) else (fun _ _ => False))))))) (s232_R K)
theorem s232_p22_ok (K : Value → World → Prop) (B1 : List Value → World → Prop) (B2 : List Value → World → Prop) (B3 : List Value → World → Prop) (s : Nat → Value) (w : World) (h : s232_p22 K B1 B2 B3 (s 0) (s 2) (s 3) (s 4) (s 5) (s 18) (s 19) (s 20) (s 21) (s 76) (s 77) (s 78) (s 108) (s 109) (s 110) w) : Tr (s232_p22_den K (fun s w => B1 [s 0, s 2, s 3, s 4, s 5, s 76, s 77, s 78] w) (fun s w => B2 [s 0, s 2, s 3, s 4, s 5, s 18, s 19, s 20, s 76, s 77, s 78] w) (fun s w => B3 [s 0, s 2, s 3, s 4, s 5, s 18, s 19, s 20, s 21, s 76, s 77, s 78, s 108, s 109, s 110] w) s w) :=
  tr_simple (P := Tryz.prog) (codes := [(cd (Tryz.f232.body.getD .skip) [1, 1, 1, 0, 1, 0, 0, 1, 1, 0, 0, 1, 1, 1, 0, 0, 1, 0, 0, 1, 0, 1, 0, 0, 1, 1, 1])]) (N := (fun s w => B3 [s 0, s 2, s 3, s 4, s 5, s 18, s 19, s 20, s 21, s 76, s 77, s 78, s 108, s 109, s 110] w)) (N' := (fun s w => B3 [s 0, s 2, s 3, s 4, s 5, s 18, s 19, s 20, s 21, s 76, s 77, s 78, s 108, s 109, s 110] w)) (X := (fun i => (bif Nat.beq i 8 then (fun s w => s232_p21 K B1 B2 (s 0) (s 2) (s 3) (s 4) (s 5) (s 18) (s 19) (s 20) (s 21) (s 76) (s 77) (s 78) w) else (bif Nat.beq i 7 then (fun s w => s232_p20 K B1 B2 (s 0) (s 2) (s 3) (s 4) (s 5) (s 18) (s 19) (s 20) (s 76) (s 77) (s 78) w) else (bif Nat.beq i 6 then (fun s w => s232_p19 K B1 (s 0) (s 2) (s 3) (s 4) (s 5) (s 76) (s 77) (s 78) w) else (bif Nat.beq i 5 then (fun s w => s232_p19 K B1 (s 0) (s 2) (s 3) (s 4) (s 5) (s 76) (s 77) (s 78) w) else (bif Nat.beq i 4 then (fun s w => s232_p18 K (s 0) (s 2) (s 3) (s 4) (s 5) w) else (fun _ _ => False)))))))) (X' := (fun i => (bif Nat.beq i 8 then (s232_p21_den K (fun s w => B1 [s 0, s 2, s 3, s 4, s 5, s 76, s 77, s 78] w) (fun s w => B2 [s 0, s 2, s 3, s 4, s 5, s 18, s 19, s 20, s 76, s 77, s 78] w)) else (bif Nat.beq i 7 then (s232_p20_den K (fun s w => B1 [s 0, s 2, s 3, s 4, s 5, s 76, s 77, s 78] w) (fun s w => B2 [s 0, s 2, s 3, s 4, s 5, s 18, s 19, s 20, s 76, s 77, s 78] w)) else (bif Nat.beq i 6 then (s232_p19_den K (fun s w => B1 [s 0, s 2, s 3, s 4, s 5, s 76, s 77, s 78] w)) else (bif Nat.beq i 5 then (s232_p19_den K (fun s w => B1 [s 0, s 2, s 3, s 4, s 5, s 76, s 77, s 78] w)) else (bif Nat.beq i 4 then (s232_p18_den K) else (fun _ _ => False)))))))) (R := s232_R K) (s := s) (w := w) (p := s232_p22 K B1 B2 B3 (s 0) (s 2) (s 3) (s 4) (s 5) (s 18) (s 19) (s 20) (s 21) (s 76) (s 77) (s 78) (s 108) (s 109) (s 110) w) (q := s232_p22_den K (fun s w => B1 [s 0, s 2, s 3, s 4, s 5, s 76, s 77, s 78] w) (fun s w => B2 [s 0, s 2, s 3, s 4, s 5, s 18, s 19, s 20, s 76, s 77, s 78] w) (fun s w => B3 [s 0, s 2, s 3, s 4, s 5, s 18, s 19, s 20, s 21, s 76, s 77, s 78, s 108, s 109, s 110] w) s w) tr_id (fun i => (tr_bif (fun s w h => s232_p21_ok K B1 B2 s w @h) (tr_bif (fun s w h => s232_p20_ok K B1 B2 s w @h) (tr_bif (fun s w h => s232_p19_ok K B1 s w @h) (tr_bif (fun s w h => s232_p19_ok K B1 s w @h) (tr_bif (fun s w h => s232_p18_ok K s w @h) tr_id)))))) (by kernel_rfl) (by kernel_rfl) @h
def s232_p23 (K : Value → World → Prop) (B1 : List Value → World → Prop) (B2 : List Value → World → Prop) (B3 : List Value → World → Prop) (t0 t2 t3 t4 t5 t18 t19 t20 t21 t76 t77 t78 t108 t109 t110 : Value) (w : World) : Prop :=
  boI .lss t110 t109 (fun t111 w =>
  ifb t111
  (ixs 2 t108 t110 (fun t112 w =>
  ldn 2 t112 (fun t113 w =>
  nw 88 #[(.int .i64 0), (.int .i64 0)] (fun t23 w =>
  stn 2 t23 t113 (fun w =>
  fd 0 t23 (fun t114 w =>
  ld1 t114 (fun t115 w =>
  fd 0 t18 (fun t116 w =>
  ld1 t116 (fun t117 w =>
  boI .eql t115 t117 (fun t118 w =>
  gd t118 true (fd 1 t23) (fun t120 w =>
  gd t118 true (ld1 t120) (fun t121 w =>
  gd t118 true (fun K w => K t20 w) (fun t122 w =>
  gd t118 true (boI .leq t121 t122) (fun t123 w =>
  pk t118 t123 (.bool false) (fun t124 w =>
  gd t124 true (fun K w => K t20 w) (fun t126 w =>
  gd t124 true (fd 1 t23) (fun t127 w =>
  gd t124 true (ld1 t127) (fun t128 w =>
  gd t124 true (fd 1 t19) (fun t129 w =>
  gd t124 true (ld1 t129) (fun t130 w =>
  gd t124 true (boI .add t128 t130) (fun t131 w =>
  gd t124 true (boI .lss t126 t131) (fun t132 w =>
  pk t124 t132 (.bool false) (fun t133 w =>
  ifb t133
  (boI .add t21 t3 (fun t136 w =>
  s232_p22 K B1 B2 B3 t0 t2 t3 t4 t5 t18 t19 t20 t136 t76 t77 t78 t108 t109 t110 w) w)
  (s232_p22 K B1 B2 B3 t0 t2 t3 t4 t5 t18 t19 t20 t21 t76 t77 t78 t108 t109 t110 w)) w) w) w) w) w) w) w) w) w) w) w) w) w) w) w) w) w) w) w) w) w) w)
  (s232_p21 K B1 B2 t0 t2 t3 t4 t5 t18 t19 t20 t21 t76 t77 t78 w)) w
def s232_p23_den (K : Value → World → Prop) (M1 : (Nat → Value) → World → Prop) (M2 : (Nat → Value) → World → Prop) (M3 : (Nat → Value) → World → Prop) : (Nat → Value) → World → Prop := denL Tryz.prog [(cd (Tryz.f232.body.getD .skip) [1, 1, 1, 0, 1, 0, 0, 1, 1, 0, 0, 1, 1, 1, 0, 0, 1, 0, 0, 1, 0, 1, 0, 0, 0]), (cd (Tryz.f232.body.getD .skip) [1, 1, 1, 0, 1, 0, 0, 1, 1, 0, 0, 1, 1, 1, 0, 0, 1, 0, 0, 1, 0, 1, 0, 0, 1, 0]), (cd (Tryz.f232.body.getD .skip) [1, 1, 1, 0, 1, 0, 0, 1, 1, 0, 0, 1, 1, 1, 0, 0, 1, 0, 0, 1, 0, 1, 0, 0, 1, 1, 0])] (s232_p22_den K M1 M2 M3) (fun i => (bif Nat.beq i 8 then (s232_p21_den K M1 M2) else (bif Nat.beq i 7 then (s232_p20_den K M1 M2) else (bif Nat.beq i 6 then (s232_p19_den K M1) else (bif Nat.beq i 5 then (s232_p19_den K M1) else (bif Nat.beq i 4 then (s232_p18_den K) else (fun _ _ => False))))))) (s232_R K)
theorem s232_p23_ok (K : Value → World → Prop) (B1 : List Value → World → Prop) (B2 : List Value → World → Prop) (B3 : List Value → World → Prop) (s : Nat → Value) (w : World) (h : s232_p23 K B1 B2 B3 (s 0) (s 2) (s 3) (s 4) (s 5) (s 18) (s 19) (s 20) (s 21) (s 76) (s 77) (s 78) (s 108) (s 109) (s 110) w) : Tr (s232_p23_den K (fun s w => B1 [s 0, s 2, s 3, s 4, s 5, s 76, s 77, s 78] w) (fun s w => B2 [s 0, s 2, s 3, s 4, s 5, s 18, s 19, s 20, s 76, s 77, s 78] w) (fun s w => B3 [s 0, s 2, s 3, s 4, s 5, s 18, s 19, s 20, s 21, s 76, s 77, s 78, s 108, s 109, s 110] w) s w) :=
  tr_simple (P := Tryz.prog) (codes := [(cd (Tryz.f232.body.getD .skip) [1, 1, 1, 0, 1, 0, 0, 1, 1, 0, 0, 1, 1, 1, 0, 0, 1, 0, 0, 1, 0, 1, 0, 0, 0]), (cd (Tryz.f232.body.getD .skip) [1, 1, 1, 0, 1, 0, 0, 1, 1, 0, 0, 1, 1, 1, 0, 0, 1, 0, 0, 1, 0, 1, 0, 0, 1, 0]), (cd (Tryz.f232.body.getD .skip) [1, 1, 1, 0, 1, 0, 0, 1, 1, 0, 0, 1, 1, 1, 0, 0, 1, 0, 0, 1, 0, 1, 0, 0, 1, 1, 0])]) (N := (fun s w => s232_p22 K B1 B2 B3 (s 0) (s 2) (s 3) (s 4) (s 5) (s 18) (s 19) (s 20) (s 21) (s 76) (s 77) (s 78) (s 108) (s 109) (s 110) w)) (N' := (s232_p22_den K (fun s w => B1 [s 0, s 2, s 3, s 4, s 5, s 76, s 77, s 78] w) (fun s w => B2 [s 0, s 2, s 3, s 4, s 5, s 18, s 19, s 20, s 76, s 77, s 78] w) (fun s w => B3 [s 0, s 2, s 3, s 4, s 5, s 18, s 19, s 20, s 21, s 76, s 77, s 78, s 108, s 109, s 110] w))) (X := (fun i => (bif Nat.beq i 8 then (fun s w => s232_p21 K B1 B2 (s 0) (s 2) (s 3) (s 4) (s 5) (s 18) (s 19) (s 20) (s 21) (s 76) (s 77) (s 78) w) else (bif Nat.beq i 7 then (fun s w => s232_p20 K B1 B2 (s 0) (s 2) (s 3) (s 4) (s 5) (s 18) (s 19) (s 20) (s 76) (s 77) (s 78) w) else (bif Nat.beq i 6 then (fun s w => s232_p19 K B1 (s 0) (s 2) (s 3) (s 4) (s 5) (s 76) (s 77) (s 78) w) else (bif Nat.beq i 5 then (fun s w => s232_p19 K B1 (s 0) (s 2) (s 3) (s 4) (s 5) (s 76) (s 77) (s 78) w) else (bif Nat.beq i 4 then (fun s w => s232_p18 K (s 0) (s 2) (s 3) (s 4) (s 5) w) else (fun _ _ => False)))))))) (X' := (fun i => (bif Nat.beq i 8 then (s232_p21_den K (fun s w => B1 [s 0, s 2, s 3, s 4, s 5, s 76, s 77, s 78] w) (fun s w => B2 [s 0, s 2, s 3, s 4, s 5, s 18, s 19, s 20, s 76, s 77, s 78] w)) else (bif Nat.beq i 7 then (s232_p20_den K (fun s w => B1 [s 0, s 2, s 3, s 4, s 5, s 76, s 77, s 78] w) (fun s w => B2 [s 0, s 2, s 3, s 4, s 5, s 18, s 19, s 20, s 76, s 77, s 78] w)) else (bif Nat.beq i 6 then (s232_p19_den K (fun s w => B1 [s 0, s 2, s 3, s 4, s 5, s 76, s 77, s 78] w)) else (bif Nat.beq i 5 then (s232_p19_den K (fun s w => B1 [s 0, s 2, s 3, s 4, s 5, s 76, s 77, s 78] w)) else (bif Nat.beq i 4 then (s232_p18_den K) else (fun _ _ => False)))))))) (R := s232_R K) (s := s) (w := w) (p := s232_p23 K B1 B2 B3 (s 0) (s 2) (s 3) (s 4) (s 5) (s 18) (s 19) (s 20) (s 21) (s 76) (s 77) (s 78) (s 108) (s 109) (s 110) w) (q := s232_p23_den K (fun s w => B1 [s 0, s 2, s 3, s 4, s 5, s 76, s 77, s 78] w) (fun s w => B2 [s 0, s 2, s 3, s 4, s 5, s 18, s 19, s 20, s 76, s 77, s 78] w) (fun s w => B3 [s 0, s 2, s 3, s 4, s 5, s 18, s 19, s 20, s 21, s 76, s 77, s 78, s 108, s 109, s 110] w) s w) (fun s w h => s232_p22_ok K B1 B2 B3 s w @h) (fun i => (tr_bif (fun s w h => s232_p21_ok K B1 B2 s w @h) (tr_bif (fun s w h => s232_p20_ok K B1 B2 s w @h) (tr_bif (fun s w h => s232_p19_ok K B1 s w @h) (tr_bif (fun s w h => s232_p19_ok K B1 s w @h) (tr_bif (fun s w h => s232_p18_ok K s w @h) tr_id)))))) (by kernel_rfl) (by kernel_rfl) @h
def s232_p24_F (K : Value → World → Prop) (B1 : List Value → World → Prop) (B2 : List Value → World → Prop) (B3 : List Value → World → Prop) (l : List Value) (w : World) : Prop :=
  match l with
  | [t0, t2, t3, t4, t5, t18, t19, t20, t21, t76, t77, t78, t108, t109, t110] => s232_p23 K B1 B2 B3 t0 t2 t3 t4 t5 t18 t19 t20 t21 t76 t77 t78 t108 t109 t110 w
  | _ => False
theorem s232_p24_Fe {K : Value → World → Prop} {B1 : List Value → World → Prop} {B2 : List Value → World → Prop} {B3 : List Value → World → Prop} {t0 t2 t3 t4 t5 t18 t19 t20 t21 t76 t77 t78 t108 t109 t110 : Value} {w : World} : s232_p24_F K B1 B2 B3 [t0, t2, t3, t4, t5, t18, t19, t20, t21, t76, t77, t78, t108, t109, t110] w = s232_p23 K B1 B2 B3 t0 t2 t3 t4 t5 t18 t19 t20 t21 t76 t77 t78 t108 t109 t110 w := by kernel_rfl
def s232_p24 (K : Value → World → Prop) (B1 : List Value → World → Prop) (B2 : List Value → World → Prop) (t0 t2 t3 t4 t5 t18 t19 t20 t21 t76 t77 t78 t108 t109 t110 : Value) (w : World) : Prop :=
  LoopL (s232_p24_F K B1 B2) [t0, t2, t3, t4, t5, t18, t19, t20, t21, t76, t77, t78, t108, t109, t110] w
def s232_p24_den (K : Value → World → Prop) (M1 : (Nat → Value) → World → Prop) (M2 : (Nat → Value) → World → Prop) : (Nat → Value) → World → Prop := fun s w => LoopP (fun M3 s w => s232_p23_den K M1 M2 M3 s w) s w
theorem s232_p24_ok (K : Value → World → Prop) (B1 : List Value → World → Prop) (B2 : List Value → World → Prop) (s : Nat → Value) (w : World) (h : s232_p24 K B1 B2 (s 0) (s 2) (s 3) (s 4) (s 5) (s 18) (s 19) (s 20) (s 21) (s 76) (s 77) (s 78) (s 108) (s 109) (s 110) w) : Tr (s232_p24_den K (fun s w => B1 [s 0, s 2, s 3, s 4, s 5, s 76, s 77, s 78] w) (fun s w => B2 [s 0, s 2, s 3, s 4, s 5, s 18, s 19, s 20, s 76, s 77, s 78] w) s w) :=
  tr_loop (G := fun N' s w => s232_p23_den K (fun s w => B1 [s 0, s 2, s 3, s 4, s 5, s 76, s 77, s 78] w) (fun s w => B2 [s 0, s 2, s 3, s 4, s 5, s 18, s 19, s 20, s 76, s 77, s 78] w) N' s w) (F := s232_p24_F K B1 B2) (sel := fun s => [s 0, s 2, s 3, s 4, s 5, s 18, s 19, s 20, s 21, s 76, s 77, s 78, s 108, s 109, s 110]) (s := s) (w := w) (p := s232_p24 K B1 B2 (s 0) (s 2) (s 3) (s 4) (s 5) (s 18) (s 19) (s 20) (s 21) (s 76) (s 77) (s 78) (s 108) (s 109) (s 110) w) (q := s232_p24_den K (fun s w => B1 [s 0, s 2, s 3, s 4, s 5, s 76, s 77, s 78] w) (fun s w => B2 [s 0, s 2, s 3, s 4, s 5, s 18, s 19, s 20, s 76, s 77, s 78] w) s w) (fun B s w h => s232_p23_ok K B1 B2 B s w @h) (by kernel_rfl) (by kernel_rfl) @h
def s232_p25 (K : Value → World → Prop) (B1 : List Value → World → Prop) (B2 : List Value → World → Prop) (t0 t2 t3 t4 t5 t18 t19 t20 t76 t77 t78 : Value) (w : World) : Prop :=
  fd 0 t18 (fun t103 w =>
  ld1 t103 (fun t104 w =>
  cl Tryz.prog 228 #[t0, t104, t20, t5] (fun t107 w =>
  lnS t4 (fun t109 w =>
  s232_p24 K B1 B2 t0 t2 t3 t4 t5 t18 t19 t20 t107 t76 t77 t78 t4 t109 (.int .i64 0) w) w) w) w) w
def s232_p25_den (K : Value → World → Prop) (M1 : (Nat → Value) → World → Prop) (M2 : (Nat → Value) → World → Prop) : (Nat → Value) → World → Prop := denL Tryz.prog [(cd (Tryz.f232.body.getD .skip) [1, 1, 1, 0, 1, 0, 0, 1, 1, 0, 0, 1, 1, 1, 0, 0, 1, 0, 0, 0]), (cd (Tryz.f232.body.getD .skip) [1, 1, 1, 0, 1, 0, 0, 1, 1, 0, 0, 1, 1, 1, 0, 0, 1, 0, 0, 1, 0, 0])] (s232_p24_den K M1 M2) (fun i => (bif Nat.beq i 7 then (s232_p20_den K M1 M2) else (bif Nat.beq i 6 then (s232_p19_den K M1) else (bif Nat.beq i 5 then (s232_p19_den K M1) else (bif Nat.beq i 4 then (s232_p18_den K) else (fun _ _ => False)))))) (s232_R K)
theorem s232_p25_ok (K : Value → World → Prop) (B1 : List Value → World → Prop) (B2 : List Value → World → Prop) (s : Nat → Value) (w : World) (h : s232_p25 K B1 B2 (s 0) (s 2) (s 3) (s 4) (s 5) (s 18) (s 19) (s 20) (s 76) (s 77) (s 78) w) : Tr (s232_p25_den K (fun s w => B1 [s 0, s 2, s 3, s 4, s 5, s 76, s 77, s 78] w) (fun s w => B2 [s 0, s 2, s 3, s 4, s 5, s 18, s 19, s 20, s 76, s 77, s 78] w) s w) :=
  tr_simple (P := Tryz.prog) (codes := [(cd (Tryz.f232.body.getD .skip) [1, 1, 1, 0, 1, 0, 0, 1, 1, 0, 0, 1, 1, 1, 0, 0, 1, 0, 0, 0]), (cd (Tryz.f232.body.getD .skip) [1, 1, 1, 0, 1, 0, 0, 1, 1, 0, 0, 1, 1, 1, 0, 0, 1, 0, 0, 1, 0, 0])]) (N := (fun s w => s232_p24 K B1 B2 (s 0) (s 2) (s 3) (s 4) (s 5) (s 18) (s 19) (s 20) (s 21) (s 76) (s 77) (s 78) (s 108) (s 109) (s 110) w)) (N' := (s232_p24_den K (fun s w => B1 [s 0, s 2, s 3, s 4, s 5, s 76, s 77, s 78] w) (fun s w => B2 [s 0, s 2, s 3, s 4, s 5, s 18, s 19, s 20, s 76, s 77, s 78] w))) (X := (fun i => (bif Nat.beq i 7 then (fun s w => s232_p20 K B1 B2 (s 0) (s 2) (s 3) (s 4) (s 5) (s 18) (s 19) (s 20) (s 76) (s 77) (s 78) w) else (bif Nat.beq i 6 then (fun s w => s232_p19 K B1 (s 0) (s 2) (s 3) (s 4) (s 5) (s 76) (s 77) (s 78) w) else (bif Nat.beq i 5 then (fun s w => s232_p19 K B1 (s 0) (s 2) (s 3) (s 4) (s 5) (s 76) (s 77) (s 78) w) else (bif Nat.beq i 4 then (fun s w => s232_p18 K (s 0) (s 2) (s 3) (s 4) (s 5) w) else (fun _ _ => False))))))) (X' := (fun i => (bif Nat.beq i 7 then (s232_p20_den K (fun s w => B1 [s 0, s 2, s 3, s 4, s 5, s 76, s 77, s 78] w) (fun s w => B2 [s 0, s 2, s 3, s 4, s 5, s 18, s 19, s 20, s 76, s 77, s 78] w)) else (bif Nat.beq i 6 then (s232_p19_den K (fun s w => B1 [s 0, s 2, s 3, s 4, s 5, s 76, s 77, s 78] w)) else (bif Nat.beq i 5 then (s232_p19_den K (fun s w => B1 [s 0, s 2, s 3, s 4, s 5, s 76, s 77, s 78] w)) else (bif Nat.beq i 4 then (s232_p18_den K) else (fun _ _ => False))))))) (R := s232_R K) (s := s) (w := w) (p := s232_p25 K B1 B2 (s 0) (s 2) (s 3) (s 4) (s 5) (s 18) (s 19) (s 20) (s 76) (s 77) (s 78) w) (q := s232_p25_den K (fun s w => B1 [s 0, s 2, s 3, s 4, s 5, s 76, s 77, s 78] w) (fun s w => B2 [s 0, s 2, s 3, s 4, s 5, s 18, s 19, s 20, s 76, s 77, s 78] w) s w) (fun s w h => s232_p24_ok K B1 B2 s w @h) (fun i => (tr_bif (fun s w h => s232_p20_ok K B1 B2 s w @h) (tr_bif (fun s w h => s232_p19_ok K B1 s w @h) (tr_bif (fun s w h => s232_p19_ok K B1 s w @h) (tr_bif (fun s w h => s232_p18_ok K s w @h) tr_id))))) (by kernel_rfl) (by kernel_rfl) @h
def s232_p26 (K : Value → World → Prop) (B1 : List Value → World → Prop) (B2 : List Value → World → Prop) (t0 t2 t3 t4 t5 t18 t19 t20 t76 t77 t78 : Value) (w : World) : Prop :=
  fd 1 t18 (fun t94 w =>
  ld1 t94 (fun t95 w =>
  fd 1 t19 (fun t96 w =>
  ld1 t96 (fun t97 w =>
  boI .add t95 t97 (fun t98 w =>
  boI .lss t20 t98 (fun t99 w =>
  ifb t99
  (s232_p25 K B1 B2 t0 t2 t3 t4 t5 t18 t19 t20 t76 t77 t78 w)
  (s232_p19 K B1 t0 t2 t3 t4 t5 t76 t77 t78 w)) w) w) w) w) w) w
def s232_p26_den (K : Value → World → Prop) (M1 : (Nat → Value) → World → Prop) (M2 : (Nat → Value) → World → Prop) : (Nat → Value) → World → Prop := denL Tryz.prog [(cd (Tryz.f232.body.getD .skip) [1, 1, 1, 0, 1, 0, 0, 1, 1, 0, 0, 1, 1, 1, 0, 0, 0, 0]), (cd (Tryz.f232.body.getD .skip) [1, 1, 1, 0, 1, 0, 0, 1, 1, 0, 0, 1, 1, 1, 0, 0, 0, 1])] (s232_p25_den K M1 M2) (fun i => (bif Nat.beq i 6 then (s232_p19_den K M1) else (bif Nat.beq i 5 then (s232_p19_den K M1) else (bif Nat.beq i 4 then (s232_p18_den K) else (fun _ _ => False))))) (s232_R K)
theorem s232_p26_ok (K : Value → World → Prop) (B1 : List Value → World → Prop) (B2 : List Value → World → Prop) (s : Nat → Value) (w : World) (h : s232_p26 K B1 B2 (s 0) (s 2) (s 3) (s 4) (s 5) (s 18) (s 19) (s 20) (s 76) (s 77) (s 78) w) : Tr (s232_p26_den K (fun s w => B1 [s 0, s 2, s 3, s 4, s 5, s 76, s 77, s 78] w) (fun s w => B2 [s 0, s 2, s 3, s 4, s 5, s 18, s 19, s 20, s 76, s 77, s 78] w) s w) :=
  tr_simple (P := Tryz.prog) (codes := [(cd (Tryz.f232.body.getD .skip) [1, 1, 1, 0, 1, 0, 0, 1, 1, 0, 0, 1, 1, 1, 0, 0, 0, 0]), (cd (Tryz.f232.body.getD .skip) [1, 1, 1, 0, 1, 0, 0, 1, 1, 0, 0, 1, 1, 1, 0, 0, 0, 1])]) (N := (fun s w => s232_p25 K B1 B2 (s 0) (s 2) (s 3) (s 4) (s 5) (s 18) (s 19) (s 20) (s 76) (s 77) (s 78) w)) (N' := (s232_p25_den K (fun s w => B1 [s 0, s 2, s 3, s 4, s 5, s 76, s 77, s 78] w) (fun s w => B2 [s 0, s 2, s 3, s 4, s 5, s 18, s 19, s 20, s 76, s 77, s 78] w))) (X := (fun i => (bif Nat.beq i 6 then (fun s w => s232_p19 K B1 (s 0) (s 2) (s 3) (s 4) (s 5) (s 76) (s 77) (s 78) w) else (bif Nat.beq i 5 then (fun s w => s232_p19 K B1 (s 0) (s 2) (s 3) (s 4) (s 5) (s 76) (s 77) (s 78) w) else (bif Nat.beq i 4 then (fun s w => s232_p18 K (s 0) (s 2) (s 3) (s 4) (s 5) w) else (fun _ _ => False)))))) (X' := (fun i => (bif Nat.beq i 6 then (s232_p19_den K (fun s w => B1 [s 0, s 2, s 3, s 4, s 5, s 76, s 77, s 78] w)) else (bif Nat.beq i 5 then (s232_p19_den K (fun s w => B1 [s 0, s 2, s 3, s 4, s 5, s 76, s 77, s 78] w)) else (bif Nat.beq i 4 then (s232_p18_den K) else (fun _ _ => False)))))) (R := s232_R K) (s := s) (w := w) (p := s232_p26 K B1 B2 (s 0) (s 2) (s 3) (s 4) (s 5) (s 18) (s 19) (s 20) (s 76) (s 77) (s 78) w) (q := s232_p26_den K (fun s w => B1 [s 0, s 2, s 3, s 4, s 5, s 76, s 77, s 78] w) (fun s w => B2 [s 0, s 2, s 3, s 4, s 5, s 18, s 19, s 20, s 76, s 77, s 78] w) s w) (fun s w h => s232_p25_ok K B1 B2 s w @h) (fun i => (tr_bif (fun s w h => s232_p19_ok K B1 s w @h) (tr_bif (fun s w h => s232_p19_ok K B1 s w @h) (tr_bif (fun s w h => s232_p18_ok K s w @h) tr_id)))) (by kernel_rfl) (by kernel_rfl) @h
def s232_p27_F (K : Value → World → Prop) (B1 : List Value → World → Prop) (B2 : List Value → World → Prop) (l : List Value) (w : World) : Prop :=
  match l with
  | [t0, t2, t3, t4, t5, t18, t19, t20, t76, t77, t78] => s232_p26 K B1 B2 t0 t2 t3 t4 t5 t18 t19 t20 t76 t77 t78 w
  | _ => False
theorem s232_p27_Fe {K : Value → World → Prop} {B1 : List Value → World → Prop} {B2 : List Value → World → Prop} {t0 t2 t3 t4 t5 t18 t19 t20 t76 t77 t78 : Value} {w : World} : s232_p27_F K B1 B2 [t0, t2, t3, t4, t5, t18, t19, t20, t76, t77, t78] w = s232_p26 K B1 B2 t0 t2 t3 t4 t5 t18 t19 t20 t76 t77 t78 w := by kernel_rfl
def s232_p27 (K : Value → World → Prop) (B1 : List Value → World → Prop) (t0 t2 t3 t4 t5 t18 t19 t20 t76 t77 t78 : Value) (w : World) : Prop :=
  LoopL (s232_p27_F K B1) [t0, t2, t3, t4, t5, t18, t19, t20, t76, t77, t78] w
def s232_p27_den (K : Value → World → Prop) (M1 : (Nat → Value) → World → Prop) : (Nat → Value) → World → Prop := fun s w => LoopP (fun M2 s w => s232_p26_den K M1 M2 s w) s w
theorem s232_p27_ok (K : Value → World → Prop) (B1 : List Value → World → Prop) (s : Nat → Value) (w : World) (h : s232_p27 K B1 (s 0) (s 2) (s 3) (s 4) (s 5) (s 18) (s 19) (s 20) (s 76) (s 77) (s 78) w) : Tr (s232_p27_den K (fun s w => B1 [s 0, s 2, s 3, s 4, s 5, s 76, s 77, s 78] w) s w) :=
  tr_loop (G := fun N' s w => s232_p26_den K (fun s w => B1 [s 0, s 2, s 3, s 4, s 5, s 76, s 77, s 78] w) N' s w) (F := s232_p27_F K B1) (sel := fun s => [s 0, s 2, s 3, s 4, s 5, s 18, s 19, s 20, s 76, s 77, s 78]) (s := s) (w := w) (p := s232_p27 K B1 (s 0) (s 2) (s 3) (s 4) (s 5) (s 18) (s 19) (s 20) (s 76) (s 77) (s 78) w) (q := s232_p27_den K (fun s w => B1 [s 0, s 2, s 3, s 4, s 5, s 76, s 77, s 78] w) s w) (fun B s w h => s232_p26_ok K B1 B s w @h) (by kernel_rfl) (by kernel_rfl) @h
def s232_p28 (K : Value → World → Prop) (B1 : List Value → World → Prop) (t0 t2 t3 t4 t5 t18 t19 t76 t77 t78 : Value) (w : World) : Prop :=
  fd 1 t18 (fun t91 w =>
  ld1 t91 (fun t92 w =>
  s232_p27 K B1 t0 t2 t3 t4 t5 t18 t19 t92 t76 t77 t78 w) w) w
def s232_p28_den (K : Value → World → Prop) (M1 : (Nat → Value) → World → Prop) : (Nat → Value) → World → Prop := denL Tryz.prog [(cd (Tryz.f232.body.getD .skip) [1, 1, 1, 0, 1, 0, 0, 1, 1, 0, 0, 1, 1, 0])] (s232_p27_den K M1) (fun i => (bif Nat.beq i 5 then (s232_p19_den K M1) else (bif Nat.beq i 4 then (s232_p18_den K) else (fun _ _ => False)))) (s232_R K)
theorem s232_p28_ok (K : Value → World → Prop) (B1 : List Value → World → Prop) (s : Nat → Value) (w : World) (h : s232_p28 K B1 (s 0) (s 2) (s 3) (s 4) (s 5) (s 18) (s 19) (s 76) (s 77) (s 78) w) : Tr (s232_p28_den K (fun s w => B1 [s 0, s 2, s 3, s 4, s 5, s 76, s 77, s 78] w) s w) :=
  tr_simple (P := Tryz.prog) (codes := [(cd (Tryz.f232.body.getD .skip) [1, 1, 1, 0, 1, 0, 0, 1, 1, 0, 0, 1, 1, 0])]) (N := (fun s w => s232_p27 K B1 (s 0) (s 2) (s 3) (s 4) (s 5) (s 18) (s 19) (s 20) (s 76) (s 77) (s 78) w)) (N' := (s232_p27_den K (fun s w => B1 [s 0, s 2, s 3, s 4, s 5, s 76, s 77, s 78] w))) (X := (fun i => (bif Nat.beq i 5 then (fun s w => s232_p19 K B1 (s 0) (s 2) (s 3) (s 4) (s 5) (s 76) (s 77) (s 78) w) else (bif Nat.beq i 4 then (fun s w => s232_p18 K (s 0) (s 2) (s 3) (s 4) (s 5) w) else (fun _ _ => False))))) (X' := (fun i => (bif Nat.beq i 5 then (s232_p19_den K (fun s w => B1 [s 0, s 2, s 3, s 4, s 5, s 76, s 77, s 78] w)) else (bif Nat.beq i 4 then (s232_p18_den K) else (fun _ _ => False))))) (R := s232_R K) (s := s) (w := w) (p := s232_p28 K B1 (s 0) (s 2) (s 3) (s 4) (s 5) (s 18) (s 19) (s 76) (s 77) (s 78) w) (q := s232_p28_den K (fun s w => B1 [s 0, s 2, s 3, s 4, s 5, s 76, s 77, s 78] w) s w) (fun s w h => s232_p27_ok K B1 s w @h) (fun i => (tr_bif (fun s w h => s232_p19_ok K B1 s w @h) (tr_bif (fun s w h => s232_p18_ok K s w @h) tr_id))) (by kernel_rfl) (by kernel_rfl) @h
def s232_p29_d (K : Value → World → Prop) (B1 : List Value → World → Prop) (t0 t2 t3 t4 t5 t18 t76 t77 t78 : Value) (w0 w : World) : Prop :=
  nck t0 (fun t83 _ =>
  fd 0 t83 (fun t84 _ =>
  fd 0 t84 (fun t85 _ =>
  ld1 t85 (fun t86 _ =>
  fd 0 t18 (fun t87 _ =>
  ld1 t87 (fun t88 _ =>
  ixs 5 t86 t88 (fun t89 _ =>
  ldn 5 t89 (fun t90 _ =>
  nw 113 #[(.int .i64 0), (.int .i64 0), (.int .i64 0), (.int .i64 0), (.int .i64 0)] (fun t19 w =>
  Below w0.heap.size w0 w ∧
  stn 5 t19 t90 (fun w =>
  s232_p28 K B1 t0 t2 t3 t4 t5 t18 t19 t76 t77 t78 w) w) w) w0) w0) w0) w0) w0) w0) w0) w0
def s232_p29 (K : Value → World → Prop) (B1 : List Value → World → Prop) (t0 t2 t3 t4 t5 t18 t76 t77 t78 : Value) (w : World) : Prop := s232_p29_d K B1 t0 t2 t3 t4 t5 t18 t76 t77 t78 (drw w) (drw w)
def s232_p29_den (K : Value → World → Prop) (M1 : (Nat → Value) → World → Prop) : (Nat → Value) → World → Prop := denL Tryz.prog [(cd (Tryz.f232.body.getD .skip) [1, 1, 1, 0, 1, 0, 0, 1, 1, 0, 0, 1, 0])] (s232_p28_den K M1) (fun i => (bif Nat.beq i 5 then (s232_p19_den K M1) else (bif Nat.beq i 4 then (s232_p18_den K) else (fun _ _ => False)))) (s232_R K)
theorem s232_p29_ok (K : Value → World → Prop) (B1 : List Value → World → Prop) (s : Nat → Value) (w : World) (h : s232_p29 K B1 (s 0) (s 2) (s 3) (s 4) (s 5) (s 18) (s 76) (s 77) (s 78) w) : Tr (s232_p29_den K (fun s w => B1 [s 0, s 2, s 3, s 4, s 5, s 76, s 77, s 78] w) s w) :=
  tr_draw (P := Tryz.prog) (ops := (ro (cd (Tryz.f232.body.getD .skip) [1, 1, 1, 0, 1, 0, 0, 1, 1, 0, 0, 1, 0]))) (ms := [0, 1, 3, 7, 15, 0, 32, 127, 255, 0, 1023]) (cs := [0, 1, 2, 3, 4, 5, 6, 7, 8]) (N := (fun s w => s232_p28 K B1 (s 0) (s 2) (s 3) (s 4) (s 5) (s 18) (s 19) (s 76) (s 77) (s 78) w)) (N' := (s232_p28_den K (fun s w => B1 [s 0, s 2, s 3, s 4, s 5, s 76, s 77, s 78] w))) (s := s) (w := w) (p := s232_p29 K B1 (s 0) (s 2) (s 3) (s 4) (s 5) (s 18) (s 76) (s 77) (s 78) w) (q := s232_p29_den K (fun s w => B1 [s 0, s 2, s 3, s 4, s 5, s 76, s 77, s 78] w) s w) (by kernel_rfl) (by kernel_rfl) (fun s w h => s232_p28_ok K B1 s w @h) (by kernel_rfl) (by kernel_rfl) @h
def s232_p30 (K : Value → World → Prop) (B1 : List Value → World → Prop) (t0 t2 t3 t4 t5 t76 t77 t78 : Value) (w : World) : Prop :=
  ixs 2 t76 t78 (fun t80 w =>
  ldn 2 t80 (fun t81 w =>
  nw 88 #[(.int .i64 0), (.int .i64 0)] (fun t18 w =>
  stn 2 t18 t81 (fun w =>
  s232_p29 K B1 t0 t2 t3 t4 t5 t18 t76 t77 t78 w) w) w) w) w
def s232_p30_den (K : Value → World → Prop) (M1 : (Nat → Value) → World → Prop) : (Nat → Value) → World → Prop := denL Tryz.prog [(cd (Tryz.f232.body.getD .skip) [1, 1, 1, 0, 1, 0, 0, 1, 1, 0, 0, 0])] (s232_p29_den K M1) (fun i => (bif Nat.beq i 5 then (s232_p19_den K M1) else (bif Nat.beq i 4 then (s232_p18_den K) else (fun _ _ => False)))) (s232_R K)
theorem s232_p30_ok (K : Value → World → Prop) (B1 : List Value → World → Prop) (s : Nat → Value) (w : World) (h : s232_p30 K B1 (s 0) (s 2) (s 3) (s 4) (s 5) (s 76) (s 77) (s 78) w) : Tr (s232_p30_den K (fun s w => B1 [s 0, s 2, s 3, s 4, s 5, s 76, s 77, s 78] w) s w) :=
  tr_simple (P := Tryz.prog) (codes := [(cd (Tryz.f232.body.getD .skip) [1, 1, 1, 0, 1, 0, 0, 1, 1, 0, 0, 0])]) (N := (fun s w => s232_p29 K B1 (s 0) (s 2) (s 3) (s 4) (s 5) (s 18) (s 76) (s 77) (s 78) w)) (N' := (s232_p29_den K (fun s w => B1 [s 0, s 2, s 3, s 4, s 5, s 76, s 77, s 78] w))) (X := (fun i => (bif Nat.beq i 5 then (fun s w => s232_p19 K B1 (s 0) (s 2) (s 3) (s 4) (s 5) (s 76) (s 77) (s 78) w) else (bif Nat.beq i 4 then (fun s w => s232_p18 K (s 0) (s 2) (s 3) (s 4) (s 5) w) else (fun _ _ => False))))) (X' := (fun i => (bif Nat.beq i 5 then (s232_p19_den K (fun s w => B1 [s 0, s 2, s 3, s 4, s 5, s 76, s 77, s 78] w)) else (bif Nat.beq i 4 then (s232_p18_den K) else (fun _ _ => False))))) (R := s232_R K) (s := s) (w := w) (p := s232_p30 K B1 (s 0) (s 2) (s 3) (s 4) (s 5) (s 76) (s 77) (s 78) w) (q := s232_p30_den K (fun s w => B1 [s 0, s 2, s 3, s 4, s 5, s 76, s 77, s 78] w) s w) (fun s w h => s232_p29_ok K B1 s w @h) (fun i => (tr_bif (fun s w h => s232_p19_ok K B1 s w @h) (tr_bif (fun s w h => s232_p18_ok K s w @h) tr_id))) (by kernel_rfl) (by kernel_rfl) @h
def s232_p31 (K : Value → World → Prop) (B1 : List Value → World → Prop) (t0 t2 t3 t4 t5 t76 t77 t78 : Value) (w : World) : Prop :=
  boI .lss t78 t77 (fun t79 w =>
  ifb t79
  (s232_p30 K B1 t0 t2 t3 t4 t5 t76 t77 t78 w)
  (s232_p18 K t0 t2 t3 t4 t5 w)) w
def s232_p31_den (K : Value → World → Prop) (M1 : (Nat → Value) → World → Prop) : (Nat → Value) → World → Prop := denL Tryz.prog [(cd (Tryz.f232.body.getD .skip) [1, 1, 1, 0, 1, 0, 0, 0]), (cd (Tryz.f232.body.getD .skip) [1, 1, 1, 0, 1, 0, 0, 1, 0])] (s232_p30_den K M1) (fun i => (bif Nat.beq i 4 then (s232_p18_den K) else (fun _ _ => False))) (s232_R K)
theorem s232_p31_ok (K : Value → World → Prop) (B1 : List Value → World → Prop) (s : Nat → Value) (w : World) (h : s232_p31 K B1 (s 0) (s 2) (s 3) (s 4) (s 5) (s 76) (s 77) (s 78) w) : Tr (s232_p31_den K (fun s w => B1 [s 0, s 2, s 3, s 4, s 5, s 76, s 77, s 78] w) s w) :=
  tr_simple (P := Tryz.prog) (codes := [(cd (Tryz.f232.body.getD .skip) [1, 1, 1, 0, 1, 0, 0, 0]), (cd (Tryz.f232.body.getD .skip) [1, 1, 1, 0, 1, 0, 0, 1, 0])]) (N := (fun s w => s232_p30 K B1 (s 0) (s 2) (s 3) (s 4) (s 5) (s 76) (s 77) (s 78) w)) (N' := (s232_p30_den K (fun s w => B1 [s 0, s 2, s 3, s 4, s 5, s 76, s 77, s 78] w))) (X := (fun i => (bif Nat.beq i 4 then (fun s w => s232_p18 K (s 0) (s 2) (s 3) (s 4) (s 5) w) else (fun _ _ => False)))) (X' := (fun i => (bif Nat.beq i 4 then (s232_p18_den K) else (fun _ _ => False)))) (R := s232_R K) (s := s) (w := w) (p := s232_p31 K B1 (s 0) (s 2) (s 3) (s 4) (s 5) (s 76) (s 77) (s 78) w) (q := s232_p31_den K (fun s w => B1 [s 0, s 2, s 3, s 4, s 5, s 76, s 77, s 78] w) s w) (fun s w h => s232_p30_ok K B1 s w @h) (fun i => (tr_bif (fun s w h => s232_p18_ok K s w @h) tr_id)) (by kernel_rfl) (by kernel_rfl) @h
def s232_p32_F (K : Value → World → Prop) (B1 : List Value → World → Prop) (l : List Value) (w : World) : Prop :=
  match l with
  | [t0, t2, t3, t4, t5, t76, t77, t78] => s232_p31 K B1 t0 t2 t3 t4 t5 t76 t77 t78 w
  | _ => False
theorem s232_p32_Fe {K : Value → World → Prop} {B1 : List Value → World → Prop} {t0 t2 t3 t4 t5 t76 t77 t78 : Value} {w : World} : s232_p32_F K B1 [t0, t2, t3, t4, t5, t76, t77, t78] w = s232_p31 K B1 t0 t2 t3 t4 t5 t76 t77 t78 w := by kernel_rfl
def s232_p32 (K : Value → World → Prop) (t0 t2 t3 t4 t5 t76 t77 t78 : Value) (w : World) : Prop :=
  LoopL (s232_p32_F K) [t0, t2, t3, t4, t5, t76, t77, t78] w
def s232_p32_den (K : Value → World → Prop) : (Nat → Value) → World → Prop := fun s w => LoopP (fun M1 s w => s232_p31_den K M1 s w) s w
theorem s232_p32_ok (K : Value → World → Prop) (s : Nat → Value) (w : World) (h : s232_p32 K (s 0) (s 2) (s 3) (s 4) (s 5) (s 76) (s 77) (s 78) w) : Tr (s232_p32_den K s w) :=
  tr_loop (G := fun N' s w => s232_p31_den K N' s w) (F := s232_p32_F K) (sel := fun s => [s 0, s 2, s 3, s 4, s 5, s 76, s 77, s 78]) (s := s) (w := w) (p := s232_p32 K (s 0) (s 2) (s 3) (s 4) (s 5) (s 76) (s 77) (s 78) w) (q := s232_p32_den K s w) (fun B s w h => s232_p31_ok K B s w @h) (by kernel_rfl) (by kernel_rfl) @h
def s232_p33 (K : Value → World → Prop) (t0 t2 t3 t4 t5 : Value) (w : World) : Prop :=
  lnS t4 (fun t77 w =>
  s232_p32 K t0 t2 t3 t4 t5 t4 t77 (.int .i64 0) w) w
def s232_p33_den (K : Value → World → Prop) : (Nat → Value) → World → Prop := denL Tryz.prog [(cd (Tryz.f232.body.getD .skip) [1, 1, 1, 0, 0])] (s232_p32_den K) (fun i => (fun _ _ => False)) (s232_R K)
theorem s232_p33_ok (K : Value → World → Prop) (s : Nat → Value) (w : World) (h : s232_p33 K (s 0) (s 2) (s 3) (s 4) (s 5) w) : Tr (s232_p33_den K s w) :=
  tr_simple (P := Tryz.prog) (codes := [(cd (Tryz.f232.body.getD .skip) [1, 1, 1, 0, 0])]) (N := (fun s w => s232_p32 K (s 0) (s 2) (s 3) (s 4) (s 5) (s 76) (s 77) (s 78) w)) (N' := (s232_p32_den K)) (X := (fun i => (fun _ _ => False))) (X' := (fun i => (fun _ _ => False))) (R := s232_R K) (s := s) (w := w) (p := s232_p33 K (s 0) (s 2) (s 3) (s 4) (s 5) w) (q := s232_p33_den K s w) (fun s w h => s232_p32_ok K s w @h) (fun i => tr_id) (by kernel_rfl) (by kernel_rfl) @h
def s232_p34 (K : Value → World → Prop) (B1 : List Value → World → Prop) (t0 t1 t2 t3 t4 t5 t53 t54 t55 : Value) (w : World) : Prop :=
  boI .add t55 (.int .i64 1) (fun t75 w =>
  B1 [t0, t1, t2, t3, t4, t5, t53, t54, t75] w) w
def s232_p34_den (K : Value → World → Prop) (M1 : (Nat → Value) → World → Prop) : (Nat → Value) → World → Prop := denL Tryz.prog [(cd (Tryz.f232.body.getD .skip) [1, 1, 0, 1, 0, 0, 1, 1, 1])] M1 (fun i => (bif Nat.beq i 2 then (s232_p33_den K) else (fun _ _ => False))) (s232_R K)
theorem s232_p34_ok (K : Value → World → Prop) (B1 : List Value → World → Prop) (s : Nat → Value) (w : World) (h : s232_p34 K B1 (s 0) (s 1) (s 2) (s 3) (s 4) (s 5) (s 53) (s 54) (s 55) w) : Tr (s232_p34_den K (fun s w => B1 [s 0, s 1, s 2, s 3, s 4, s 5, s 53, s 54, s 55] w) s w) :=
  tr_simple (P := Tryz.prog) (codes := [(cd (Tryz.f232.body.getD .skip) [1, 1, 0, 1, 0, 0, 1, 1, 1])]) (N := (fun s w => B1 [s 0, s 1, s 2, s 3, s 4, s 5, s 53, s 54, s 55] w)) (N' := (fun s w => B1 [s 0, s 1, s 2, s 3, s 4, s 5, s 53, s 54, s 55] w)) (X := (fun i => (bif Nat.beq i 2 then (fun s w => s232_p33 K (s 0) (s 2) (s 3) (s 4) (s 5) w) else (fun _ _ => False)))) (X' := (fun i => (bif Nat.beq i 2 then (s232_p33_den K) else (fun _ _ => False)))) (R := s232_R K) (s := s) (w := w) (p := s232_p34 K B1 (s 0) (s 1) (s 2) (s 3) (s 4) (s 5) (s 53) (s 54) (s 55) w) (q := s232_p34_den K (fun s w => B1 [s 0, s 1, s 2, s 3, s 4, s 5, s 53, s 54, s 55] w) s w) tr_id (fun i => (tr_bif (fun s w h => s232_p33_ok K s w @h) tr_id)) (by kernel_rfl) (by kernel_rfl) @h
def s232_p35 (K : Value → World → Prop) (B1 : List Value → World → Prop) (t0 t1 t2 t3 t4 t5 t53 t54 t55 t74 : Value) (w : World) : Prop :=
  ifb t74
  (K (.int .i64 3) w)
  (s232_p34 K B1 t0 t1 t2 t3 t4 t5 t53 t54 t55 w)
def s232_p35_den (K : Value → World → Prop) (M1 : (Nat → Value) → World → Prop) : (Nat → Value) → World → Prop := denL Tryz.prog [(cd (Tryz.f232.body.getD .skip) [1, 1, 0, 1, 0, 0, 1, 1, 0, 0, 1, 1])] (s232_p34_den K M1) (fun i => (bif Nat.beq i 3 then (s232_p34_den K M1) else (bif Nat.beq i 2 then (s232_p33_den K) else (fun _ _ => False)))) (s232_R K)
theorem s232_p35_ok (K : Value → World → Prop) (B1 : List Value → World → Prop) (s : Nat → Value) (w : World) (h : s232_p35 K B1 (s 0) (s 1) (s 2) (s 3) (s 4) (s 5) (s 53) (s 54) (s 55) (s 74) w) : Tr (s232_p35_den K (fun s w => B1 [s 0, s 1, s 2, s 3, s 4, s 5, s 53, s 54, s 55] w) s w) :=
  tr_simple (P := Tryz.prog) (codes := [(cd (Tryz.f232.body.getD .skip) [1, 1, 0, 1, 0, 0, 1, 1, 0, 0, 1, 1])]) (N := (fun s w => s232_p34 K B1 (s 0) (s 1) (s 2) (s 3) (s 4) (s 5) (s 53) (s 54) (s 55) w)) (N' := (s232_p34_den K (fun s w => B1 [s 0, s 1, s 2, s 3, s 4, s 5, s 53, s 54, s 55] w))) (X := (fun i => (bif Nat.beq i 3 then (fun s w => s232_p34 K B1 (s 0) (s 1) (s 2) (s 3) (s 4) (s 5) (s 53) (s 54) (s 55) w) else (bif Nat.beq i 2 then (fun s w => s232_p33 K (s 0) (s 2) (s 3) (s 4) (s 5) w) else (fun _ _ => False))))) (X' := (fun i => (bif Nat.beq i 3 then (s232_p34_den K (fun s w => B1 [s 0, s 1, s 2, s 3, s 4, s 5, s 53, s 54, s 55] w)) else (bif Nat.beq i 2 then (s232_p33_den K) else (fun _ _ => False))))) (R := s232_R K) (s := s) (w := w) (p := s232_p35 K B1 (s 0) (s 1) (s 2) (s 3) (s 4) (s 5) (s 53) (s 54) (s 55) (s 74) w) (q := s232_p35_den K (fun s w => B1 [s 0, s 1, s 2, s 3, s 4, s 5, s 53, s 54, s 55] w) s w) (fun s w h => s232_p34_ok K B1 s w @h) (fun i => (tr_bif (fun s w h => s232_p34_ok K B1 s w @h) (tr_bif (fun s w h => s232_p33_ok K s w @h) tr_id))) (by kernel_rfl) (by kernel_rfl) @h
def s232_p36_d (K : Value → World → Prop) (B1 : List Value → World → Prop) (t0 t1 t2 t3 t4 t5 t16 t53 t54 t55 : Value) (w0 w : World) : Prop :=
  fd 1 t16 (fun t59 _ =>
  ld1 t59 (fun t60 _ =>
  boI .lss t60 t1 (fun t62 _ =>
  gd t62 false (fd 1 t16) (fun t64 _ =>
  gd t62 false (ld1 t64) (fun t65 _ =>
  gd t62 false (fun K w => K t1 w) (fun t66 _ =>
  gd t62 false (fun K w => K t0 w) (fun t67 _ =>
  gd t62 false (nck t67) (fun t68 _ =>
  gd t62 false (fd 0 t68) (fun t69 _ =>
  gd t62 false (fd 2 t69) (fun t70 _ =>
  gd t62 false (ld1 t70) (fun t71 _ =>
  gd t62 false (boI .add t66 t71) (fun t72 _ =>
  gd t62 false (boI .geq t65 t72) (fun t73 _ =>
  pk t62 (.bool true) t73 (fun t74 _ =>
  s232_p35 K B1 t0 t1 t2 t3 t4 t5 t53 t54 t55 t74 w) w0) w0) w0) w0) w0) w0) w0) w0) w0) w0) w0) w0) w0) w0
def s232_p36 (K : Value → World → Prop) (B1 : List Value → World → Prop) (t0 t1 t2 t3 t4 t5 t16 t53 t54 t55 : Value) (w : World) : Prop := s232_p36_d K B1 t0 t1 t2 t3 t4 t5 t16 t53 t54 t55 (drw w) (drw w)
def s232_p36_den (K : Value → World → Prop) (M1 : (Nat → Value) → World → Prop) : (Nat → Value) → World → Prop := denL Tryz.prog [(cd (Tryz.f232.body.getD .skip) [1, 1, 0, 1, 0, 0, 1, 1, 0, 0, 1, 0])] (s232_p35_den K M1) (fun i => (bif Nat.beq i 3 then (s232_p34_den K M1) else (bif Nat.beq i 2 then (s232_p33_den K) else (fun _ _ => False)))) (s232_R K)
theorem s232_p36_ok (K : Value → World → Prop) (B1 : List Value → World → Prop) (s : Nat → Value) (w : World) (h : s232_p36 K B1 (s 0) (s 1) (s 2) (s 3) (s 4) (s 5) (s 16) (s 53) (s 54) (s 55) w) : Tr (s232_p36_den K (fun s w => B1 [s 0, s 1, s 2, s 3, s 4, s 5, s 53, s 54, s 55] w) s w) :=
  tr_draw (P := Tryz.prog) (ops := (ro (cd (Tryz.f232.body.getD .skip) [1, 1, 0, 1, 0, 0, 1, 1, 0, 0, 1, 0]))) (ms := [0, 1, 0, 7, 15, 31, 63, 31, 31, 287, 799, 1823, 3871, 8095, 16383, 32767]) (cs := [0, 1, 2, 3, 4, 5, 6, 7, 8, 9, 10, 11, 12, 13, 14, 15]) (N := (fun s w => s232_p35 K B1 (s 0) (s 1) (s 2) (s 3) (s 4) (s 5) (s 53) (s 54) (s 55) (s 74) w)) (N' := (s232_p35_den K (fun s w => B1 [s 0, s 1, s 2, s 3, s 4, s 5, s 53, s 54, s 55] w))) (s := s) (w := w) (p := s232_p36 K B1 (s 0) (s 1) (s 2) (s 3) (s 4) (s 5) (s 16) (s 53) (s 54) (s 55) w) (q := s232_p36_den K (fun s w => B1 [s 0, s 1, s 2, s 3, s 4, s 5, s 53, s 54, s 55] w) s w) (by kernel_rfl) (by kernel_rfl) (fun s w h => s232_p35_ok K B1 s w @h) (by kernel_rfl) (by kernel_rfl) @h
def s232_p37 (K : Value → World → Prop) (B1 : List Value → World → Prop) (t0 t1 t2 t3 t4 t5 t53 t54 t55 : Value) (w : World) : Prop :=
  ixs 2 t53 t55 (fun t57 w =>
  ldn 2 t57 (fun t58 w =>
  nw 88 #[(.int .i64 0), (.int .i64 0)] (fun t16 w =>
  stn 2 t16 t58 (fun w =>
  s232_p36 K B1 t0 t1 t2 t3 t4 t5 t16 t53 t54 t55 w) w) w) w) w
def s232_p37_den (K : Value → World → Prop) (M1 : (Nat → Value) → World → Prop) : (Nat → Value) → World → Prop := denL Tryz.prog [(cd (Tryz.f232.body.getD .skip) [1, 1, 0, 1, 0, 0, 1, 1, 0, 0, 0])] (s232_p36_den K M1) (fun i => (bif Nat.beq i 3 then (s232_p34_den K M1) else (bif Nat.beq i 2 then (s232_p33_den K) else (fun _ _ => False)))) (s232_R K)
theorem s232_p37_ok (K : Value → World → Prop) (B1 : List Value → World → Prop) (s : Nat → Value) (w : World) (h : s232_p37 K B1 (s 0) (s 1) (s 2) (s 3) (s 4) (s 5) (s 53) (s 54) (s 55) w) : Tr (s232_p37_den K (fun s w => B1 [s 0, s 1, s 2, s 3, s 4, s 5, s 53, s 54, s 55] w) s w) :=
  tr_simple (P := Tryz.prog) (codes := [(cd (Tryz.f232.body.getD .skip) [1, 1, 0, 1, 0, 0, 1, 1, 0, 0, 0])]) (N := (fun s w => s232_p36 K B1 (s 0) (s 1) (s 2) (s 3) (s 4) (s 5) (s 16) (s 53) (s 54) (s 55) w)) (N' := (s232_p36_den K (fun s w => B1 [s 0, s 1, s 2, s 3, s 4, s 5, s 53, s 54, s 55] w))) (X := (fun i => (bif Nat.beq i 3 then (fun s w => s232_p34 K B1 (s 0) (s 1) (s 2) (s 3) (s 4) (s 5) (s 53) (s 54) (s 55) w) else (bif Nat.beq i 2 then (fun s w => s232_p33 K (s 0) (s 2) (s 3) (s 4) (s 5) w) else (fun _ _ => False))))) (X' := (fun i => (bif Nat.beq i 3 then (s232_p34_den K (fun s w => B1 [s 0, s 1, s 2, s 3, s 4, s 5, s 53, s 54, s 55] w)) else (bif Nat.beq i 2 then (s232_p33_den K) else (fun _ _ => False))))) (R := s232_R K) (s := s) (w := w) (p := s232_p37 K B1 (s 0) (s 1) (s 2) (s 3) (s 4) (s 5) (s 53) (s 54) (s 55) w) (q := s232_p37_den K (fun s w => B1 [s 0, s 1, s 2, s 3, s 4, s 5, s 53, s 54, s 55] w) s w) (fun s w h => s232_p36_ok K B1 s w @h) (fun i => (tr_bif (fun s w h => s232_p34_ok K B1 s w @h) (tr_bif (fun s w h => s232_p33_ok K s w @h) tr_id))) (by kernel_rfl) (by kernel_rfl) @h
def s232_p38 (K : Value → World → Prop) (B1 : List Value → World → Prop) (t0 t1 t2 t3 t4 t5 t53 t54 t55 : Value) (w : World) : Prop :=
  boI .lss t55 t54 (fun t56 w =>
  ifb t56
  (s232_p37 K B1 t0 t1 t2 t3 t4 t5 t53 t54 t55 w)
  (s232_p33 K t0 t2 t3 t4 t5 w)) w
def s232_p38_den (K : Value → World → Prop) (M1 : (Nat → Value) → World → Prop) : (Nat → Value) → World → Prop := denL Tryz.prog [(cd (Tryz.f232.body.getD .skip) [1, 1, 0, 1, 0, 0, 0]), (cd (Tryz.f232.body.getD .skip) [1, 1, 0, 1, 0, 0, 1, 0])] (s232_p37_den K M1) (fun i => (bif Nat.beq i 2 then (s232_p33_den K) else (fun _ _ => False))) (s232_R K)
theorem s232_p38_ok (K : Value → World → Prop) (B1 : List Value → World → Prop) (s : Nat → Value) (w : World) (h : s232_p38 K B1 (s 0) (s 1) (s 2) (s 3) (s 4) (s 5) (s 53) (s 54) (s 55) w) : Tr (s232_p38_den K (fun s w => B1 [s 0, s 1, s 2, s 3, s 4, s 5, s 53, s 54, s 55] w) s w) :=
  tr_simple (P := Tryz.prog) (codes := [(cd (Tryz.f232.body.getD .skip) [1, 1, 0, 1, 0, 0, 0]), (cd (Tryz.f232.body.getD .skip) [1, 1, 0, 1, 0, 0, 1, 0])]) (N := (fun s w => s232_p37 K B1 (s 0) (s 1) (s 2) (s 3) (s 4) (s 5) (s 53) (s 54) (s 55) w)) (N' := (s232_p37_den K (fun s w => B1 [s 0, s 1, s 2, s 3, s 4, s 5, s 53, s 54, s 55] w))) (X := (fun i => (bif Nat.beq i 2 then (fun s w => s232_p33 K (s 0) (s 2) (s 3) (s 4) (s 5) w) else (fun _ _ => False)))) (X' := (fun i => (bif Nat.beq i 2 then (s232_p33_den K) else (fun _ _ => False)))) (R := s232_R K) (s := s) (w := w) (p := s232_p38 K B1 (s 0) (s 1) (s 2) (s 3) (s 4) (s 5) (s 53) (s 54) (s 55) w) (q := s232_p38_den K (fun s w => B1 [s 0, s 1, s 2, s 3, s 4, s 5, s 53, s 54, s 55] w) s w) (fun s w h => s232_p37_ok K B1 s w @h) (fun i => (tr_bif (fun s w h => s232_p33_ok K s w @h) tr_id)) (by kernel_rfl) (by kernel_rfl) @h
def s232_p39_F (K : Value → World → Prop) (B1 : List Value → World → Prop) (l : List Value) (w : World) : Prop :=
  match l with
  | [t0, t1, t2, t3, t4, t5, t53, t54, t55] => s232_p38 K B1 t0 t1 t2 t3 t4 t5 t53 t54 t55 w
  | _ => False
theorem s232_p39_Fe {K : Value → World → Prop} {B1 : List Value → World → Prop} {t0 t1 t2 t3 t4 t5 t53 t54 t55 : Value} {w : World} : s232_p39_F K B1 [t0, t1, t2, t3, t4, t5, t53, t54, t55] w = s232_p38 K B1 t0 t1 t2 t3 t4 t5 t53 t54 t55 w := by kernel_rfl
def s232_p39 (K : Value → World → Prop) (t0 t1 t2 t3 t4 t5 t53 t54 t55 : Value) (w : World) : Prop :=
  LoopL (s232_p39_F K) [t0, t1, t2, t3, t4, t5, t53, t54, t55] w
def s232_p39_den (K : Value → World → Prop) : (Nat → Value) → World → Prop := fun s w => LoopP (fun M1 s w => s232_p38_den K M1 s w) s w
theorem s232_p39_ok (K : Value → World → Prop) (s : Nat → Value) (w : World) (h : s232_p39 K (s 0) (s 1) (s 2) (s 3) (s 4) (s 5) (s 53) (s 54) (s 55) w) : Tr (s232_p39_den K s w) :=
  tr_loop (G := fun N' s w => s232_p38_den K N' s w) (F := s232_p39_F K) (sel := fun s => [s 0, s 1, s 2, s 3, s 4, s 5, s 53, s 54, s 55]) (s := s) (w := w) (p := s232_p39 K (s 0) (s 1) (s 2) (s 3) (s 4) (s 5) (s 53) (s 54) (s 55) w) (q := s232_p39_den K s w) (fun B s w h => s232_p38_ok K B s w @h) (by kernel_rfl) (by kernel_rfl) @h
def s232_p40 (K : Value → World → Prop) (t0 t1 t2 t3 t4 t5 : Value) (w : World) : Prop :=
  lnS t4 (fun t54 w =>
  s232_p39 K t0 t1 t2 t3 t4 t5 t4 t54 (.int .i64 0) w) w
def s232_p40_den (K : Value → World → Prop) : (Nat → Value) → World → Prop := denL Tryz.prog [(cd (Tryz.f232.body.getD .skip) [1, 1, 0, 0])] (s232_p39_den K) (fun i => (fun _ _ => False)) (s232_R K)
theorem s232_p40_ok (K : Value → World → Prop) (s : Nat → Value) (w : World) (h : s232_p40 K (s 0) (s 1) (s 2) (s 3) (s 4) (s 5) w) : Tr (s232_p40_den K s w) :=
  tr_simple (P := Tryz.prog) (codes := [(cd (Tryz.f232.body.getD .skip) [1, 1, 0, 0])]) (N := (fun s w => s232_p39 K (s 0) (s 1) (s 2) (s 3) (s 4) (s 5) (s 53) (s 54) (s 55) w)) (N' := (s232_p39_den K)) (X := (fun i => (fun _ _ => False))) (X' := (fun i => (fun _ _ => False))) (R := s232_R K) (s := s) (w := w) (p := s232_p40 K (s 0) (s 1) (s 2) (s 3) (s 4) (s 5) w) (q := s232_p40_den K s w) (fun s w h => s232_p39_ok K s w @h) (fun i => tr_id) (by kernel_rfl) (by kernel_rfl) @h
def s232_p41 (K : Value → World → Prop) (B1 : List Value → World → Prop) (t0 t1 t2 t3 t4 t5 t32 t33 t34 : Value) (w : World) : Prop :=
  boI .add t34 (.int .i64 1) (fun t52 w =>
  B1 [t0, t1, t2, t3, t4, t5, t32, t33, t52] w) w
def s232_p41_den (K : Value → World → Prop) (M1 : (Nat → Value) → World → Prop) : (Nat → Value) → World → Prop := denL Tryz.prog [(cd (Tryz.f232.body.getD .skip) [1, 0, 1, 0, 0, 1, 1, 1])] M1 (fun i => (bif Nat.beq i 0 then (s232_p40_den K) else (fun _ _ => False))) (s232_R K)
theorem s232_p41_ok (K : Value → World → Prop) (B1 : List Value → World → Prop) (s : Nat → Value) (w : World) (h : s232_p41 K B1 (s 0) (s 1) (s 2) (s 3) (s 4) (s 5) (s 32) (s 33) (s 34) w) : Tr (s232_p41_den K (fun s w => B1 [s 0, s 1, s 2, s 3, s 4, s 5, s 32, s 33, s 34] w) s w) :=
  tr_simple (P := Tryz.prog) (codes := [(cd (Tryz.f232.body.getD .skip) [1, 0, 1, 0, 0, 1, 1, 1])]) (N := (fun s w => B1 [s 0, s 1, s 2, s 3, s 4, s 5, s 32, s 33, s 34] w)) (N' := (fun s w => B1 [s 0, s 1, s 2, s 3, s 4, s 5, s 32, s 33, s 34] w)) (X := (fun i => (bif Nat.beq i 0 then (fun s w => s232_p40 K (s 0) (s 1) (s 2) (s 3) (s 4) (s 5) w) else (fun _ _ => False)))) (X' := (fun i => (bif Nat.beq i 0 then (s232_p40_den K) else (fun _ _ => False)))) (R := s232_R K) (s := s) (w := w) (p := s232_p41 K B1 (s 0) (s 1) (s 2) (s 3) (s 4) (s 5) (s 32) (s 33) (s 34) w) (q := s232_p41_den K (fun s w => B1 [s 0, s 1, s 2, s 3, s 4, s 5, s 32, s 33, s 34] w) s w) tr_id (fun i => (tr_bif (fun s w h => s232_p40_ok K s w @h) tr_id)) (by kernel_rfl) (by kernel_rfl) @h
def s232_p42 (K : Value → World → Prop) (B1 : List Value → World → Prop) (t0 t1 t2 t3 t4 t5 t32 t33 t34 t51 : Value) (w : World) : Prop :=
  ifb t51
  (K (.int .i64 13) w)
  (s232_p41 K B1 t0 t1 t2 t3 t4 t5 t32 t33 t34 w)
def s232_p42_den (K : Value → World → Prop) (M1 : (Nat → Value) → World → Prop) : (Nat → Value) → World → Prop := denL Tryz.prog [(cd (Tryz.f232.body.getD .skip) [1, 0, 1, 0, 0, 1, 1, 0, 0, 1, 1])] (s232_p41_den K M1) (fun i => (bif Nat.beq i 1 then (s232_p41_den K M1) else (bif Nat.beq i 0 then (s232_p40_den K) else (fun _ _ => False)))) (s232_R K)
theorem s232_p42_ok (K : Value → World → Prop) (B1 : List Value → World → Prop) (s : Nat → Value) (w : World) (h : s232_p42 K B1 (s 0) (s 1) (s 2) (s 3) (s 4) (s 5) (s 32) (s 33) (s 34) (s 51) w) : Tr (s232_p42_den K (fun s w => B1 [s 0, s 1, s 2, s 3, s 4, s 5, s 32, s 33, s 34] w) s w) :=
  tr_simple (P := Tryz.prog) (codes := [(cd (Tryz.f232.body.getD .skip) [1, 0, 1, 0, 0, 1, 1, 0, 0, 1, 1])]) (N := (fun s w => s232_p41 K B1 (s 0) (s 1) (s 2) (s 3) (s 4) (s 5) (s 32) (s 33) (s 34) w)) (N' := (s232_p41_den K (fun s w => B1 [s 0, s 1, s 2, s 3, s 4, s 5, s 32, s 33, s 34] w))) (X := (fun i => (bif Nat.beq i 1 then (fun s w => s232_p41 K B1 (s 0) (s 1) (s 2) (s 3) (s 4) (s 5) (s 32) (s 33) (s 34) w) else (bif Nat.beq i 0 then (fun s w => s232_p40 K (s 0) (s 1) (s 2) (s 3) (s 4) (s 5) w) else (fun _ _ => False))))) (X' := (fun i => (bif Nat.beq i 1 then (s232_p41_den K (fun s w => B1 [s 0, s 1, s 2, s 3, s 4, s 5, s 32, s 33, s 34] w)) else (bif Nat.beq i 0 then (s232_p40_den K) else (fun _ _ => False))))) (R := s232_R K) (s := s) (w := w) (p := s232_p42 K B1 (s 0) (s 1) (s 2) (s 3) (s 4) (s 5) (s 32) (s 33) (s 34) (s 51) w) (q := s232_p42_den K (fun s w => B1 [s 0, s 1, s 2, s 3, s 4, s 5, s 32, s 33, s 34] w) s w) (fun s w h => s232_p41_ok K B1 s w @h) (fun i => (tr_bif (fun s w h => s232_p41_ok K B1 s w @h) (tr_bif (fun s w h => s232_p40_ok K s w @h) tr_id))) (by kernel_rfl) (by kernel_rfl) @h
def s232_p43_d (K : Value → World → Prop) (B1 : List Value → World → Prop) (t0 t1 t2 t3 t4 t5 t14 t32 t33 t34 : Value) (w0 w : World) : Prop :=
  fd 0 t14 (fun t38 _ =>
  ld1 t38 (fun t39 _ =>
  boI .lss t39 (.int .i64 0) (fun t40 _ =>
  gd t40 false (fd 0 t14) (fun t42 _ =>
  gd t40 false (ld1 t42) (fun t43 _ =>
  gd t40 false (fun K w => K t0 w) (fun t44 _ =>
  gd t40 false (nck t44) (fun t45 _ =>
  gd t40 false (fd 0 t45) (fun t46 _ =>
  gd t40 false (fd 0 t46) (fun t47 _ =>
  gd t40 false (ld1 t47) (fun t48 _ =>
  gd t40 false (lnS t48) (fun t49 _ =>
  gd t40 false (boI .geq t43 t49) (fun t50 _ =>
  pk t40 (.bool true) t50 (fun t51 _ =>
  s232_p42 K B1 t0 t1 t2 t3 t4 t5 t32 t33 t34 t51 w) w0) w0) w0) w0) w0) w0) w0) w0) w0) w0) w0) w0) w0
def s232_p43 (K : Value → World → Prop) (B1 : List Value → World → Prop) (t0 t1 t2 t3 t4 t5 t14 t32 t33 t34 : Value) (w : World) : Prop := s232_p43_d K B1 t0 t1 t2 t3 t4 t5 t14 t32 t33 t34 (drw w) (drw w)
def s232_p43_den (K : Value → World → Prop) (M1 : (Nat → Value) → World → Prop) : (Nat → Value) → World → Prop := denL Tryz.prog [(cd (Tryz.f232.body.getD .skip) [1, 0, 1, 0, 0, 1, 1, 0, 0, 1, 0])] (s232_p42_den K M1) (fun i => (bif Nat.beq i 1 then (s232_p41_den K M1) else (bif Nat.beq i 0 then (s232_p40_den K) else (fun _ _ => False)))) (s232_R K)
theorem s232_p43_ok (K : Value → World → Prop) (B1 : List Value → World → Prop) (s : Nat → Value) (w : World) (h : s232_p43 K B1 (s 0) (s 1) (s 2) (s 3) (s 4) (s 5) (s 14) (s 32) (s 33) (s 34) w) : Tr (s232_p43_den K (fun s w => B1 [s 0, s 1, s 2, s 3, s 4, s 5, s 32, s 33, s 34] w) s w) :=
  tr_draw (P := Tryz.prog) (ops := (ro (cd (Tryz.f232.body.getD .skip) [1, 0, 1, 0, 0, 1, 1, 0, 0, 1, 0]))) (ms := [0, 1, 3, 7, 15, 31, 15, 79, 207, 463, 975, 1999, 4095, 8191]) (cs := [0, 1, 2, 3, 4, 5, 6, 7, 8, 9, 10, 11, 12, 13]) (N := (fun s w => s232_p42 K B1 (s 0) (s 1) (s 2) (s 3) (s 4) (s 5) (s 32) (s 33) (s 34) (s 51) w)) (N' := (s232_p42_den K (fun s w => B1 [s 0, s 1, s 2, s 3, s 4, s 5, s 32, s 33, s 34] w))) (s := s) (w := w) (p := s232_p43 K B1 (s 0) (s 1) (s 2) (s 3) (s 4) (s 5) (s 14) (s 32) (s 33) (s 34) w) (q := s232_p43_den K (fun s w => B1 [s 0, s 1, s 2, s 3, s 4, s 5, s 32, s 33, s 34] w) s w) (by kernel_rfl) (by kernel_rfl) (fun s w h => s232_p42_ok K B1 s w @h) (by kernel_rfl) (by kernel_rfl) @h
def s232_p44 (K : Value → World → Prop) (B1 : List Value → World → Prop) (t0 t1 t2 t3 t4 t5 t32 t33 t34 : Value) (w : World) : Prop :=
  ixs 2 t32 t34 (fun t36 w =>
  ldn 2 t36 (fun t37 w =>
  nw 88 #[(.int .i64 0), (.int .i64 0)] (fun t14 w =>
  stn 2 t14 t37 (fun w =>
  s232_p43 K B1 t0 t1 t2 t3 t4 t5 t14 t32 t33 t34 w) w) w) w) w
def s232_p44_den (K : Value → World → Prop) (M1 : (Nat → Value) → World → Prop) : (Nat → Value) → World → Prop := denL Tryz.prog [(cd (Tryz.f232.body.getD .skip) [1, 0, 1, 0, 0, 1, 1, 0, 0, 0])] (s232_p43_den K M1) (fun i => (bif Nat.beq i 1 then (s232_p41_den K M1) else (bif Nat.beq i 0 then (s232_p40_den K) else (fun _ _ => False)))) (s232_R K)
theorem s232_p44_ok (K : Value → World → Prop) (B1 : List Value → World → Prop) (s : Nat → Value) (w : World) (h : s232_p44 K B1 (s 0) (s 1) (s 2) (s 3) (s 4) (s 5) (s 32) (s 33) (s 34) w) : Tr (s232_p44_den K (fun s w => B1 [s 0, s 1, s 2, s 3, s 4, s 5, s 32, s 33, s 34] w) s w) :=
  tr_simple (P := Tryz.prog) (codes := [(cd (Tryz.f232.body.getD .skip) [1, 0, 1, 0, 0, 1, 1, 0, 0, 0])]) (N := (fun s w => s232_p43 K B1 (s 0) (s 1) (s 2) (s 3) (s 4) (s 5) (s 14) (s 32) (s 33) (s 34) w)) (N' := (s232_p43_den K (fun s w => B1 [s 0, s 1, s 2, s 3, s 4, s 5, s 32, s 33, s 34] w))) (X := (fun i => (bif Nat.beq i 1 then (fun s w => s232_p41 K B1 (s 0) (s 1) (s 2) (s 3) (s 4) (s 5) (s 32) (s 33) (s 34) w) else (bif Nat.beq i 0 then (fun s w => s232_p40 K (s 0) (s 1) (s 2) (s 3) (s 4) (s 5) w) else (fun _ _ => False))))) (X' := (fun i => (bif Nat.beq i 1 then (s232_p41_den K (fun s w => B1 [s 0, s 1, s 2, s 3, s 4, s 5, s 32, s 33, s 34] w)) else (bif Nat.beq i 0 then (s232_p40_den K) else (fun _ _ => False))))) (R := s232_R K) (s := s) (w := w) (p := s232_p44 K B1 (s 0) (s 1) (s 2) (s 3) (s 4) (s 5) (s 32) (s 33) (s 34) w) (q := s232_p44_den K (fun s w => B1 [s 0, s 1, s 2, s 3, s 4, s 5, s 32, s 33, s 34] w) s w) (fun s w h => s232_p43_ok K B1 s w @h) (fun i => (tr_bif (fun s w h => s232_p41_ok K B1 s w @h) (tr_bif (fun s w h => s232_p40_ok K s w @h) tr_id))) (by kernel_rfl) (by kernel_rfl) @h
def s232_p45 (K : Value → World → Prop) (B1 : List Value → World → Prop) (t0 t1 t2 t3 t4 t5 t32 t33 t34 : Value) (w : World) : Prop :=
  boI .lss t34 t33 (fun t35 w =>
  ifb t35
  (s232_p44 K B1 t0 t1 t2 t3 t4 t5 t32 t33 t34 w)
  (s232_p40 K t0 t1 t2 t3 t4 t5 w)) w
def s232_p45_den (K : Value → World → Prop) (M1 : (Nat → Value) → World → Prop) : (Nat → Value) → World → Prop := denL Tryz.prog [(cd (Tryz.f232.body.getD .skip) [1, 0, 1, 0, 0, 0]), (cd (Tryz.f232.body.getD .skip) [1, 0, 1, 0, 0, 1, 0])] (s232_p44_den K M1) (fun i => (bif Nat.beq i 0 then (s232_p40_den K) else (fun _ _ => False))) (s232_R K)
theorem s232_p45_ok (K : Value → World → Prop) (B1 : List Value → World → Prop) (s : Nat → Value) (w : World) (h : s232_p45 K B1 (s 0) (s 1) (s 2) (s 3) (s 4) (s 5) (s 32) (s 33) (s 34) w) : Tr (s232_p45_den K (fun s w => B1 [s 0, s 1, s 2, s 3, s 4, s 5, s 32, s 33, s 34] w) s w) :=
  tr_simple (P := Tryz.prog) (codes := [(cd (Tryz.f232.body.getD .skip) [1, 0, 1, 0, 0, 0]), (cd (Tryz.f232.body.getD .skip) [1, 0, 1, 0, 0, 1, 0])]) (N := (fun s w => s232_p44 K B1 (s 0) (s 1) (s 2) (s 3) (s 4) (s 5) (s 32) (s 33) (s 34) w)) (N' := (s232_p44_den K (fun s w => B1 [s 0, s 1, s 2, s 3, s 4, s 5, s 32, s 33, s 34] w))) (X := (fun i => (bif Nat.beq i 0 then (fun s w => s232_p40 K (s 0) (s 1) (s 2) (s 3) (s 4) (s 5) w) else (fun _ _ => False)))) (X' := (fun i => (bif Nat.beq i 0 then (s232_p40_den K) else (fun _ _ => False)))) (R := s232_R K) (s := s) (w := w) (p := s232_p45 K B1 (s 0) (s 1) (s 2) (s 3) (s 4) (s 5) (s 32) (s 33) (s 34) w) (q := s232_p45_den K (fun s w => B1 [s 0, s 1, s 2, s 3, s 4, s 5, s 32, s 33, s 34] w) s w) (fun s w h => s232_p44_ok K B1 s w @h) (fun i => (tr_bif (fun s w h => s232_p40_ok K s w @h) tr_id)) (by kernel_rfl) (by kernel_rfl) @h
def s232_p46_F (K : Value → World → Prop) (B1 : List Value → World → Prop) (l : List Value) (w : World) : Prop :=
  match l with
  | [t0, t1, t2, t3, t4, t5, t32, t33, t34] => s232_p45 K B1 t0 t1 t2 t3 t4 t5 t32 t33 t34 w
  | _ => False
theorem s232_p46_Fe {K : Value → World → Prop} {B1 : List Value → World → Prop} {t0 t1 t2 t3 t4 t5 t32 t33 t34 : Value} {w : World} : s232_p46_F K B1 [t0, t1, t2, t3, t4, t5, t32, t33, t34] w = s232_p45 K B1 t0 t1 t2 t3 t4 t5 t32 t33 t34 w := by kernel_rfl
def s232_p46 (K : Value → World → Prop) (t0 t1 t2 t3 t4 t5 t32 t33 t34 : Value) (w : World) : Prop :=
  LoopL (s232_p46_F K) [t0, t1, t2, t3, t4, t5, t32, t33, t34] w
def s232_p46_den (K : Value → World → Prop) : (Nat → Value) → World → Prop := fun s w => LoopP (fun M1 s w => s232_p45_den K M1 s w) s w
theorem s232_p46_ok (K : Value → World → Prop) (s : Nat → Value) (w : World) (h : s232_p46 K (s 0) (s 1) (s 2) (s 3) (s 4) (s 5) (s 32) (s 33) (s 34) w) : Tr (s232_p46_den K s w) :=
  tr_loop (G := fun N' s w => s232_p45_den K N' s w) (F := s232_p46_F K) (sel := fun s => [s 0, s 1, s 2, s 3, s 4, s 5, s 32, s 33, s 34]) (s := s) (w := w) (p := s232_p46 K (s 0) (s 1) (s 2) (s 3) (s 4) (s 5) (s 32) (s 33) (s 34) w) (q := s232_p46_den K s w) (fun B s w h => s232_p45_ok K B s w @h) (by kernel_rfl) (by kernel_rfl) @h
def s232_p47 (K : Value → World → Prop) (t0 t1 t2 t3 t4 t5 : Value) (w : World) : Prop :=
  lnS t4 (fun t33 w =>
  s232_p46 K t0 t1 t2 t3 t4 t5 t4 t33 (.int .i64 0) w) w
def s232_p47_den (K : Value → World → Prop) : (Nat → Value) → World → Prop := denL Tryz.prog [(cd (Tryz.f232.body.getD .skip) [0]), (cd (Tryz.f232.body.getD .skip) [1, 0, 0])] (s232_p46_den K) (fun i => (fun _ _ => False)) (s232_R K)
theorem s232_p47_ok (K : Value → World → Prop) (s : Nat → Value) (w : World) (h : s232_p47 K (s 0) (s 1) (s 2) (s 3) (s 4) (s 5) w) : Tr (s232_p47_den K s w) :=
  tr_simple (P := Tryz.prog) (codes := [(cd (Tryz.f232.body.getD .skip) [0]), (cd (Tryz.f232.body.getD .skip) [1, 0, 0])]) (N := (fun s w => s232_p46 K (s 0) (s 1) (s 2) (s 3) (s 4) (s 5) (s 32) (s 33) (s 34) w)) (N' := (s232_p46_den K)) (X := (fun i => (fun _ _ => False))) (X' := (fun i => (fun _ _ => False))) (R := s232_R K) (s := s) (w := w) (p := s232_p47 K (s 0) (s 1) (s 2) (s 3) (s 4) (s 5) w) (q := s232_p47_den K s w) (fun s w h => s232_p46_ok K s w @h) (fun i => tr_id) (by kernel_rfl) (by kernel_rfl) @h
/-- the call, from the text -/
theorem c232 (t0 t1 t2 t3 t4 t5 : Value) {K : Value → World → Prop} {w : World} (h : s232_p47 K t0 t1 t2 t3 t4 t5 w) : cl Tryz.prog 232 #[t0, t1, t2, t3, t4, t5] K w :=
  calls_of_tr (c := (Tryz.f232.body.getD .skip)) (fn := Tryz.f232) (q := s232_p47_den K (st0 #[t0, t1, t2, t3, t4, t5]) w) Tryz.func232 (by kernel_rfl) (by kernel_rfl) (Nat.le_of_ble_eq_true (by kernel_rfl)) (by kernel_rfl) (by kernel_rfl) (s232_p47_ok K (st0 #[t0, t1, t2, t3, t4, t5]) w @h)

/-! ### function 240 : (*e2e.bookingm.Table).grant -/
def s240_R (K : Value → World → Prop) (s : Nat → Value) (w : World) : Prop := retv Tryz.prog s Tryz.f240.results.toList (fun vs => K (pack vs) w) w
def s240_p1 (K : Value → World → Prop) (t3 t4 : Value) (w : World) : Prop :=
  ldn 7 t3 (fun t27 w =>
  stn 7 t4 t27 (fun w =>
  ldn 7 t4 (fun r0 _ =>
  K r0 w) w) w) w
def s240_p1_den (K : Value → World → Prop) : (Nat → Value) → World → Prop := denL Tryz.prog [(cd (Tryz.f240.body.getD .skip) [1, 1, 1, 1, 0]), (cd (Tryz.f240.body.getD .skip) [1, 1, 1, 1, 1])] (fun _ _ => False) (fun i => (fun _ _ => False)) (s240_R K)
theorem s240_p1_ok (K : Value → World → Prop) (s : Nat → Value) (w : World) (h : s240_p1 K (s 3) (s 4) w) : Tr (s240_p1_den K s w) :=
  tr_simple (P := Tryz.prog) (codes := [(cd (Tryz.f240.body.getD .skip) [1, 1, 1, 1, 0]), (cd (Tryz.f240.body.getD .skip) [1, 1, 1, 1, 1])]) (N := (fun _ _ => False)) (N' := (fun _ _ => False)) (X := (fun i => (fun _ _ => False))) (X' := (fun i => (fun _ _ => False))) (R := s240_R K) (s := s) (w := w) (p := s240_p1 K (s 3) (s 4) w) (q := s240_p1_den K s w) tr_id (fun i => tr_id) (by kernel_rfl) (by kernel_rfl) @h
def s240_p2_d (K : Value → World → Prop) (t0 t3 t4 : Value) (w0 w : World) : Prop :=
  nck t0 (fun t19 _ =>
  fd 14 t19 (fun t20 _ =>
  ld1 t20 (fun t21 _ =>
  ldn 7 t3 (fun t22 _ =>
  nck t0 (fun t25 _ =>
  fd 14 t25 (fun t26 _ =>
  bsq 85 [(.int .i64 0), (.int .i64 0), (.int .i64 0), (.int .i64 0), (.int .i64 0), (.int .i64 0), (.slice none 0 0)] 1 [(some (0, 7), t22)] (fun t23 w =>
  Below w0.heap.size w0 w ∧
  apq 85 [(.int .i64 0), (.int .i64 0), (.int .i64 0), (.int .i64 0), (.int .i64 0), (.int .i64 0), (.slice none 0 0)] 72 t21 t23 (fun t24 w =>
  st1 t26 t24 (fun w =>
  s240_p1 K t3 t4 w) w) w) w) w0) w0) w0) w0) w0) w0
def s240_p2 (K : Value → World → Prop) (t0 t3 t4 : Value) (w : World) : Prop := s240_p2_d K t0 t3 t4 (drw w) (drw w)
def s240_p2_den (K : Value → World → Prop) : (Nat → Value) → World → Prop := denL Tryz.prog [(cd (Tryz.f240.body.getD .skip) [1, 1, 1, 0])] (s240_p1_den K) (fun i => (fun _ _ => False)) (s240_R K)
theorem s240_p2_ok (K : Value → World → Prop) (s : Nat → Value) (w : World) (h : s240_p2 K (s 0) (s 3) (s 4) w) : Tr (s240_p2_den K s w) :=
  tr_draw (P := Tryz.prog) (ops := (ro (cd (Tryz.f240.body.getD .skip) [1, 1, 1, 0]))) (ms := [0, 0, 2, 6, 14, 0, 32, 126, 255, 511, 1023]) (cs := [0, 1, 2, 3, 4, 5, 8, 9]) (N := (fun s w => s240_p1 K (s 3) (s 4) w)) (N' := (s240_p1_den K)) (s := s) (w := w) (p := s240_p2 K (s 0) (s 3) (s 4) w) (q := s240_p2_den K s w) (by kernel_rfl) (by kernel_rfl) (fun s w h => s240_p1_ok K s w @h) (by kernel_rfl) (by kernel_rfl) @h
def s240_p3 (K : Value → World → Prop) (t0 t1 : Value) (w : World) : Prop :=
  nw 85 (t1).cells (fun t3 w =>
  nw 85 #[(.int .i64 0), (.int .i64 0), (.int .i64 0), (.int .i64 0), (.int .i64 0), (.int .i64 0), (.slice none 0 0)] (fun t4 w =>
  nck t0 (fun t6 w =>
  fd 14 t6 (fun t7 w =>
  ld1 t7 (fun t8 w =>
  lnS t8 (fun t9 w =>
  boI .add t9 (.int .i64 1) (fun t10 w =>
  fd 0 t3 (fun t11 w =>
  st1 t11 t10 (fun w =>
  bsq 88 [(.int .i64 0), (.int .i64 0)] 0 [] (fun t12 w =>
  fd 6 t3 (fun t13 w =>
  ld1 t13 (fun t14 w =>
  apq 88 [(.int .i64 0), (.int .i64 0)] 16 t12 t14 (fun t15 w =>
  fd 6 t3 (fun t16 w =>
  st1 t16 t15 (fun w =>
  s240_p2 K t0 t3 t4 w) w) w) w) w) w) w) w) w) w) w) w) w) w) w) w
def s240_p3_den (K : Value → World → Prop) : (Nat → Value) → World → Prop := denL Tryz.prog [(cd (Tryz.f240.body.getD .skip) [0]), (cd (Tryz.f240.body.getD .skip) [1, 0]), (cd (Tryz.f240.body.getD .skip) [1, 1, 0])] (s240_p2_den K) (fun i => (fun _ _ => False)) (s240_R K)
theorem s240_p3_ok (K : Value → World → Prop) (s : Nat → Value) (w : World) (h : s240_p3 K (s 0) (s 1) w) : Tr (s240_p3_den K s w) :=
  tr_simple (P := Tryz.prog) (codes := [(cd (Tryz.f240.body.getD .skip) [0]), (cd (Tryz.f240.body.getD .skip) [1, 0]), (cd (Tryz.f240.body.getD .skip) [1, 1, 0])]) (N := (fun s w => s240_p2 K (s 0) (s 3) (s 4) w)) (N' := (s240_p2_den K)) (X := (fun i => (fun _ _ => False))) (X' := (fun i => (fun _ _ => False))) (R := s240_R K) (s := s) (w := w) (p := s240_p3 K (s 0) (s 1) w) (q := s240_p3_den K s w) (fun s w h => s240_p2_ok K s w @h) (fun i => tr_id) (by kernel_rfl) (by kernel_rfl) @h
/-- the call, from the text -/
theorem c240 (t0 t1 : Value) {K : Value → World → Prop} {w : World} (h : s240_p3 K t0 t1 w) : cl Tryz.prog 240 #[t0, t1] K w :=
  calls_of_tr (c := (Tryz.f240.body.getD .skip)) (fn := Tryz.f240) (q := s240_p3_den K (st0 #[t0, t1]) w) Tryz.func240 (by kernel_rfl) (by kernel_rfl) (Nat.le_of_ble_eq_true (by kernel_rfl)) (by kernel_rfl) (by kernel_rfl) (s240_p3_ok K (st0 #[t0, t1]) w @h)

/-! ### function 238 : (*e2e.bookingm.Table).Check -/
def s238_R (K : Value → World → Prop) (s : Nat → Value) (w : World) : Prop := retv Tryz.prog s Tryz.f238.results.toList (fun vs => K (pack vs) w) w
def s238_p1 (K : Value → World → Prop) (t0 t1 t2 t3 t4 t21 : Value) (w : World) : Prop :=
  ifb t21
  (K (.int .i64 9) w)
  (cl Tryz.prog 232 #[t0, t1, t2, t3, t4, (.int .i64 0)] (fun t27 w =>
  K t27 w) w)
def s238_p1_den (K : Value → World → Prop) : (Nat → Value) → World → Prop := denL Tryz.prog [(cd (Tryz.f238.body.getD .skip) [1, 0, 1]), (cd (Tryz.f238.body.getD .skip) [1, 1, 0]), (cd (Tryz.f238.body.getD .skip) [1, 1, 1])] (fun _ _ => False) (fun i => (fun _ _ => False)) (s238_R K)
theorem s238_p1_ok (K : Value → World → Prop) (s : Nat → Value) (w : World) (h : s238_p1 K (s 0) (s 1) (s 2) (s 3) (s 4) (s 21) w) : Tr (s238_p1_den K s w) :=
  tr_simple (P := Tryz.prog) (codes := [(cd (Tryz.f238.body.getD .skip) [1, 0, 1]), (cd (Tryz.f238.body.getD .skip) [1, 1, 0]), (cd (Tryz.f238.body.getD .skip) [1, 1, 1])]) (N := (fun _ _ => False)) (N' := (fun _ _ => False)) (X := (fun i => (fun _ _ => False))) (X' := (fun i => (fun _ _ => False))) (R := s238_R K) (s := s) (w := w) (p := s238_p1 K (s 0) (s 1) (s 2) (s 3) (s 4) (s 21) w) (q := s238_p1_den K s w) tr_id (fun i => tr_id) (by kernel_rfl) (by kernel_rfl) @h
def s238_p2_d (K : Value → World → Prop) (t0 t1 t2 t3 t4 : Value) (w0 w : World) : Prop :=
  nck t0 (fun t12 _ =>
  fd 14 t12 (fun t13 _ =>
  ld1 t13 (fun t14 _ =>
  lnS t14 (fun t15 _ =>
  nck t0 (fun t17 _ =>
  fd 0 t17 (fun t18 _ =>
  fd 10 t18 (fun t19 _ =>
  ld1 t19 (fun t20 _ =>
  boI .geq t15 t20 (fun t21 _ =>
  s238_p1 K t0 t1 t2 t3 t4 t21 w) w0) w0) w0) w0) w0) w0) w0) w0) w0
def s238_p2 (K : Value → World → Prop) (t0 t1 t2 t3 t4 : Value) (w : World) : Prop := s238_p2_d K t0 t1 t2 t3 t4 (drw w) (drw w)
def s238_p2_den (K : Value → World → Prop) : (Nat → Value) → World → Prop := denL Tryz.prog [(cd (Tryz.f238.body.getD .skip) [1, 0, 0])] (s238_p1_den K) (fun i => (fun _ _ => False)) (s238_R K)
theorem s238_p2_ok (K : Value → World → Prop) (s : Nat → Value) (w : World) (h : s238_p2 K (s 0) (s 1) (s 2) (s 3) (s 4) w) : Tr (s238_p2_den K s w) :=
  tr_draw (P := Tryz.prog) (ops := (ro (cd (Tryz.f238.body.getD .skip) [1, 0, 0]))) (ms := [0, 1, 3, 7, 15, 0, 32, 96, 224, 480, 1023]) (cs := [0, 1, 2, 3, 4, 5, 6, 7, 8, 9, 10]) (N := (fun s w => s238_p1 K (s 0) (s 1) (s 2) (s 3) (s 4) (s 21) w)) (N' := (s238_p1_den K)) (s := s) (w := w) (p := s238_p2 K (s 0) (s 1) (s 2) (s 3) (s 4) w) (q := s238_p2_den K s w) (by kernel_rfl) (by kernel_rfl) (fun s w h => s238_p1_ok K s w @h) (by kernel_rfl) (by kernel_rfl) @h
def s238_p3 (K : Value → World → Prop) (t0 t1 t2 t3 t4 : Value) (w : World) : Prop :=
  s238_p2 K t0 t1 t2 t3 t4 w
def s238_p3_den (K : Value → World → Prop) : (Nat → Value) → World → Prop := denL Tryz.prog [(cd (Tryz.f238.body.getD .skip) [0])] (s238_p2_den K) (fun i => (fun _ _ => False)) (s238_R K)
theorem s238_p3_ok (K : Value → World → Prop) (s : Nat → Value) (w : World) (h : s238_p3 K (s 0) (s 1) (s 2) (s 3) (s 4) w) : Tr (s238_p3_den K s w) :=
  tr_simple (P := Tryz.prog) (codes := [(cd (Tryz.f238.body.getD .skip) [0])]) (N := (fun s w => s238_p2 K (s 0) (s 1) (s 2) (s 3) (s 4) w)) (N' := (s238_p2_den K)) (X := (fun i => (fun _ _ => False))) (X' := (fun i => (fun _ _ => False))) (R := s238_R K) (s := s) (w := w) (p := s238_p3 K (s 0) (s 1) (s 2) (s 3) (s 4) w) (q := s238_p3_den K s w) (fun s w h => s238_p2_ok K s w @h) (fun i => tr_id) (by kernel_rfl) (by kernel_rfl) @h
/-- the call, from the text -/
theorem c238 (t0 t1 t2 t3 t4 : Value) {K : Value → World → Prop} {w : World} (h : s238_p3 K t0 t1 t2 t3 t4 w) : cl Tryz.prog 238 #[t0, t1, t2, t3, t4] K w :=
  calls_of_tr (c := (Tryz.f238.body.getD .skip)) (fn := Tryz.f238) (q := s238_p3_den K (st0 #[t0, t1, t2, t3, t4]) w) Tryz.func238 (by kernel_rfl) (by kernel_rfl) (Nat.le_of_ble_eq_true (by kernel_rfl)) (by kernel_rfl) (by kernel_rfl) (s238_p3_ok K (st0 #[t0, t1, t2, t3, t4]) w @h)

/-! ### function 230 : (*e2e.bookingm.Table).Hold -/
def s230_R (K : Value → World → Prop) (s : Nat → Value) (w : World) : Prop := retv Tryz.prog s Tryz.f230.results.toList (fun vs => K (pack vs) w) w
def s230_p1 (K : Value → World → Prop) (t0 t1 t2 t3 t4 : Value) (w : World) : Prop :=
  nw 85 #[(.int .i64 0), (.int .i64 0), (.int .i64 0), (.int .i64 0), (.int .i64 0), (.int .i64 0), (.slice none 0 0)] (fun t10 w =>
  cl Tryz.prog 238 #[t0, t1, t2, t3, t4] (fun t18 w =>
  boI .neq t18 (.int .i64 0) (fun t20 w =>
  ifb t20
  (bdq [(.int .i64 0), (.int .i64 0), (.int .i64 0), (.int .i64 0), (.int .i64 0), (.int .i64 0), (.slice none 0 0)] [] (fun t21 w =>
  stn 7 t10 t21 (fun w =>
  ldn 7 t10 (fun r0 _ =>
  K (.tuple #[r0, t18]) w) w) w) w)
  (nck t0 (fun t28 w =>
  fd 0 t28 (fun t29 w =>
  fd 6 t29 (fun t30 w =>
  ld1 t30 (fun t31 w =>
  boI .add t1 t31 (fun t32 w =>
  bdq [(.int .i64 0), (.int .i64 0), (.int .i64 0), (.int .i64 0), (.int .i64 0), (.int .i64 0), (.slice none 0 0)] [(some (1, 1), (.int .i64 1)), (some (2, 1), t2), (some (3, 1), t3), (some (5, 1), t32), (some (6, 1), t4)] (fun t34 w =>
  cl Tryz.prog 240 #[t0, t34] (fun t35 w =>
  stn 7 t10 t35 (fun w =>
  ldn 7 t10 (fun r0 _ =>
  K (.tuple #[r0, (.int .i64 0)]) w) w) w) w) w) w) w) w) w) w)) w) w) w
def s230_p1_den (K : Value → World → Prop) : (Nat → Value) → World → Prop := denL Tryz.prog [(cd (Tryz.f230.body.getD .skip) [0]), (cd (Tryz.f230.body.getD .skip) [1, 0, 0]), (cd (Tryz.f230.body.getD .skip) [1, 0, 1, 0]), (cd (Tryz.f230.body.getD .skip) [1, 0, 1, 1]), (cd (Tryz.f230.body.getD .skip) [1, 1, 0]), (cd (Tryz.f230.body.getD .skip) [1, 1, 1])] (fun _ _ => False) (fun i => (fun _ _ => False)) (s230_R K)
theorem s230_p1_ok (K : Value → World → Prop) (s : Nat → Value) (w : World) (h : s230_p1 K (s 0) (s 1) (s 2) (s 3) (s 4) w) : Tr (s230_p1_den K s w) :=
  tr_simple (P := Tryz.prog) (codes := [(cd (Tryz.f230.body.getD .skip) [0]), (cd (Tryz.f230.body.getD .skip) [1, 0, 0]), (cd (Tryz.f230.body.getD .skip) [1, 0, 1, 0]), (cd (Tryz.f230.body.getD .skip) [1, 0, 1, 1]), (cd (Tryz.f230.body.getD .skip) [1, 1, 0]), (cd (Tryz.f230.body.getD .skip) [1, 1, 1])]) (N := (fun _ _ => False)) (N' := (fun _ _ => False)) (X := (fun i => (fun _ _ => False))) (X' := (fun i => (fun _ _ => False))) (R := s230_R K) (s := s) (w := w) (p := s230_p1 K (s 0) (s 1) (s 2) (s 3) (s 4) w) (q := s230_p1_den K s w) tr_id (fun i => tr_id) (by kernel_rfl) (by kernel_rfl) @h
/-- the call, from the text -/
theorem c230 (t0 t1 t2 t3 t4 : Value) {K : Value → World → Prop} {w : World} (h : s230_p1 K t0 t1 t2 t3 t4 w) : cl Tryz.prog 230 #[t0, t1, t2, t3, t4] K w :=
  calls_of_tr (c := (Tryz.f230.body.getD .skip)) (fn := Tryz.f230) (q := s230_p1_den K (st0 #[t0, t1, t2, t3, t4]) w) Tryz.func230 (by kernel_rfl) (by kernel_rfl) (Nat.le_of_ble_eq_true (by kernel_rfl)) (by kernel_rfl) (by kernel_rfl) (s230_p1_ok K (st0 #[t0, t1, t2, t3, t4]) w @h)

/-! ### function 208 : (*e2e.bookingm.Table).Confirm -/
def s208_R (K : Value → World → Prop) (s : Nat → Value) (w : World) : Prop := retv Tryz.prog s Tryz.f208.results.toList (fun vs => K (pack vs) w) w
def s208_p1 (K : Value → World → Prop) (t7 t32 : Value) (w : World) : Prop :=
  ifb t32
  (K (.int .i64 16) w)
  (nck t7 (fun t34 w =>
  fd 1 t34 (fun t35 w =>
  st1 t35 (.int .i64 2) (fun w =>
  K (.int .i64 0) w) w) w) w)
def s208_p1_den (K : Value → World → Prop) : (Nat → Value) → World → Prop := denL Tryz.prog [(cd (Tryz.f208.body.getD .skip) [1, 1, 1, 1, 0, 1]), (cd (Tryz.f208.body.getD .skip) [1, 1, 1, 1, 1, 0]), (cd (Tryz.f208.body.getD .skip) [1, 1, 1, 1, 1, 1, 0]), (cd (Tryz.f208.body.getD .skip) [1, 1, 1, 1, 1, 1, 1])] (fun _ _ => False) (fun i => (fun _ _ => False)) (s208_R K)
theorem s208_p1_ok (K : Value → World → Prop) (s : Nat → Value) (w : World) (h : s208_p1 K (s 7) (s 32) w) : Tr (s208_p1_den K s w) :=
  tr_simple (P := Tryz.prog) (codes := [(cd (Tryz.f208.body.getD .skip) [1, 1, 1, 1, 0, 1]), (cd (Tryz.f208.body.getD .skip) [1, 1, 1, 1, 1, 0]), (cd (Tryz.f208.body.getD .skip) [1, 1, 1, 1, 1, 1, 0]), (cd (Tryz.f208.body.getD .skip) [1, 1, 1, 1, 1, 1, 1])]) (N := (fun _ _ => False)) (N' := (fun _ _ => False)) (X := (fun i => (fun _ _ => False))) (X' := (fun i => (fun _ _ => False))) (R := s208_R K) (s := s) (w := w) (p := s208_p1 K (s 7) (s 32) w) (q := s208_p1_den K s w) tr_id (fun i => tr_id) (by kernel_rfl) (by kernel_rfl) @h
def s208_p2_d (K : Value → World → Prop) (t0 t1 t7 : Value) (w0 w : World) : Prop :=
  nck t7 (fun t20 _ =>
  fd 6 t20 (fun t21 _ =>
  ld1 t21 (fun t22 _ =>
  ixs 2 t22 (.int .i64 0) (fun t23 _ =>
  fd 1 t23 (fun t24 _ =>
  ld1 t24 (fun t25 _ =>
  nck t0 (fun t27 _ =>
  fd 0 t27 (fun t28 _ =>
  fd 7 t28 (fun t29 _ =>
  ld1 t29 (fun t30 _ =>
  boI .add t25 t30 (fun t31 _ =>
  boI .geq t1 t31 (fun t32 _ =>
  s208_p1 K t7 t32 w) w0) w0) w0) w0) w0) w0) w0) w0) w0) w0) w0) w0
def s208_p2 (K : Value → World → Prop) (t0 t1 t7 : Value) (w : World) : Prop := s208_p2_d K t0 t1 t7 (drw w) (drw w)
def s208_p2_den (K : Value → World → Prop) : (Nat → Value) → World → Prop := denL Tryz.prog [(cd (Tryz.f208.body.getD .skip) [1, 1, 1, 1, 0, 0])] (s208_p1_den K) (fun i => (fun _ _ => False)) (s208_R K)
theorem s208_p2_ok (K : Value → World → Prop) (s : Nat → Value) (w : World) (h : s208_p2 K (s 0) (s 1) (s 7) w) : Tr (s208_p2_den K s w) :=
  tr_draw (P := Tryz.prog) (ops := (ro (cd (Tryz.f208.body.getD .skip) [1, 1, 1, 1, 0, 0]))) (ms := [0, 0, 2, 6, 14, 30, 62, 126, 0, 256, 768, 1792, 3840, 8190, 16383]) (cs := [0, 1, 2, 3, 4, 5, 6, 7, 8, 9, 10, 11, 12, 13, 14]) (N := (fun s w => s208_p1 K (s 7) (s 32) w)) (N' := (s208_p1_den K)) (s := s) (w := w) (p := s208_p2 K (s 0) (s 1) (s 7) w) (q := s208_p2_den K s w) (by kernel_rfl) (by kernel_rfl) (fun s w h => s208_p1_ok K s w @h) (by kernel_rfl) (by kernel_rfl) @h
def s208_p3 (K : Value → World → Prop) (t0 t1 t2 : Value) (w : World) : Prop :=
  cl Tryz.prog 200 #[t0, t2] (fun t10 w =>
  boP .eql t10 (.pointer none) (fun t12 w =>
  ifb t12
  (K (.int .i64 2) w)
  (nck t10 (fun t14 w =>
  fd 1 t14 (fun t15 w =>
  ld1 t15 (fun t16 w =>
  boI .neq t16 (.int .i64 1) (fun t17 w =>
  ifb t17
  (K (.int .i64 8) w)
  (s208_p2 K t0 t1 t10 w)) w) w) w) w)) w) w
def s208_p3_den (K : Value → World → Prop) : (Nat → Value) → World → Prop := denL Tryz.prog [(cd (Tryz.f208.body.getD .skip) [0]), (cd (Tryz.f208.body.getD .skip) [1, 0]), (cd (Tryz.f208.body.getD .skip) [1, 1, 0, 0]), (cd (Tryz.f208.body.getD .skip) [1, 1, 0, 1]), (cd (Tryz.f208.body.getD .skip) [1, 1, 1, 0, 0]), (cd (Tryz.f208.body.getD .skip) [1, 1, 1, 0, 1])] (s208_p2_den K) (fun i => (fun _ _ => False)) (s208_R K)
theorem s208_p3_ok (K : Value → World → Prop) (s : Nat → Value) (w : World) (h : s208_p3 K (s 0) (s 1) (s 2) w) : Tr (s208_p3_den K s w) :=
  tr_simple (P := Tryz.prog) (codes := [(cd (Tryz.f208.body.getD .skip) [0]), (cd (Tryz.f208.body.getD .skip) [1, 0]), (cd (Tryz.f208.body.getD .skip) [1, 1, 0, 0]), (cd (Tryz.f208.body.getD .skip) [1, 1, 0, 1]), (cd (Tryz.f208.body.getD .skip) [1, 1, 1, 0, 0]), (cd (Tryz.f208.body.getD .skip) [1, 1, 1, 0, 1])]) (N := (fun s w => s208_p2 K (s 0) (s 1) (s 7) w)) (N' := (s208_p2_den K)) (X := (fun i => (fun _ _ => False))) (X' := (fun i => (fun _ _ => False))) (R := s208_R K) (s := s) (w := w) (p := s208_p3 K (s 0) (s 1) (s 2) w) (q := s208_p3_den K s w) (fun s w h => s208_p2_ok K s w @h) (fun i => tr_id) (by kernel_rfl) (by kernel_rfl) @h
/-- the call, from the text -/
theorem c208 (t0 t1 t2 : Value) {K : Value → World → Prop} {w : World} (h : s208_p3 K t0 t1 t2 w) : cl Tryz.prog 208 #[t0, t1, t2] K w :=
  calls_of_tr (c := (Tryz.f208.body.getD .skip)) (fn := Tryz.f208) (q := s208_p3_den K (st0 #[t0, t1, t2]) w) Tryz.func208 (by kernel_rfl) (by kernel_rfl) (Nat.le_of_ble_eq_true (by kernel_rfl)) (by kernel_rfl) (by kernel_rfl) (s208_p3_ok K (st0 #[t0, t1, t2]) w @h)

/-! ### function 209 : (*e2e.bookingm.Table).Cancel -/
def s209_R (K : Value → World → Prop) (s : Nat → Value) (w : World) : Prop := retv Tryz.prog s Tryz.f209.results.toList (fun vs => K (pack vs) w) w
def s209_p1 (K : Value → World → Prop) (t0 t1 : Value) (w : World) : Prop :=
  cl Tryz.prog 200 #[t0, t1] (fun t8 w =>
  boP .eql t8 (.pointer none) (fun t10 w =>
  ifb t10
  (K (.int .i64 2) w)
  (nck t8 (fun t12 w =>
  fd 1 t12 (fun t13 w =>
  ld1 t13 (fun t14 w =>
  boI .neq t14 (.int .i64 1) (fun t15 w =>
  gd t15 true (fun K w => K t8 w) (fun t17 w =>
  gd t15 true (nck t17) (fun t18 w =>
  gd t15 true (fd 1 t18) (fun t19 w =>
  gd t15 true (ld1 t19) (fun t20 w =>
  gd t15 true (boI .neq t20 (.int .i64 2)) (fun t21 w =>
  pk t15 t21 (.bool false) (fun t22 w =>
  gd t22 true (fun K w => K t8 w) (fun t24 w =>
  gd t22 true (nck t24) (fun t25 w =>
  gd t22 true (fd 1 t25) (fun t26 w =>
  gd t22 true (ld1 t26) (fun t27 w =>
  gd t22 true (boI .neq t27 (.int .i64 8)) (fun t28 w =>
  pk t22 t28 (.bool false) (fun t29 w =>
  ifb t29
  (K (.int .i64 8) w)
  (nck t8 (fun t31 w =>
  fd 1 t31 (fun t32 w =>
  st1 t32 (.int .i64 4) (fun w =>
  K (.int .i64 0) w) w) w) w)) w) w) w) w) w) w) w) w) w) w) w) w) w) w) w) w)) w) w
def s209_p1_den (K : Value → World → Prop) : (Nat → Value) → World → Prop := denL Tryz.prog [(cd (Tryz.f209.body.getD .skip) [0]), (cd (Tryz.f209.body.getD .skip) [1, 0]), (cd (Tryz.f209.body.getD .skip) [1, 1, 0, 0]), (cd (Tryz.f209.body.getD .skip) [1, 1, 0, 1]), (cd (Tryz.f209.body.getD .skip) [1, 1, 1, 0, 0]), (cd (Tryz.f209.body.getD .skip) [1, 1, 1, 0, 1]), (cd (Tryz.f209.body.getD .skip) [1, 1, 1, 1, 0]), (cd (Tryz.f209.body.getD .skip) [1, 1, 1, 1, 1, 0]), (cd (Tryz.f209.body.getD .skip) [1, 1, 1, 1, 1, 1])] (fun _ _ => False) (fun i => (fun _ _ => False)) (s209_R K)
theorem s209_p1_ok (K : Value → World → Prop) (s : Nat → Value) (w : World) (h : s209_p1 K (s 0) (s 1) w) : Tr (s209_p1_den K s w) :=
  tr_simple (P := Tryz.prog) (codes := [(cd (Tryz.f209.body.getD .skip) [0]), (cd (Tryz.f209.body.getD .skip) [1, 0]), (cd (Tryz.f209.body.getD .skip) [1, 1, 0, 0]), (cd (Tryz.f209.body.getD .skip) [1, 1, 0, 1]), (cd (Tryz.f209.body.getD .skip) [1, 1, 1, 0, 0]), (cd (Tryz.f209.body.getD .skip) [1, 1, 1, 0, 1]), (cd (Tryz.f209.body.getD .skip) [1, 1, 1, 1, 0]), (cd (Tryz.f209.body.getD .skip) [1, 1, 1, 1, 1, 0]), (cd (Tryz.f209.body.getD .skip) [1, 1, 1, 1, 1, 1])]) (N := (fun _ _ => False)) (N' := (fun _ _ => False)) (X := (fun i => (fun _ _ => False))) (X' := (fun i => (fun _ _ => False))) (R := s209_R K) (s := s) (w := w) (p := s209_p1 K (s 0) (s 1) w) (q := s209_p1_den K s w) tr_id (fun i => tr_id) (by kernel_rfl) (by kernel_rfl) @h
/-- the call, from the text -/
theorem c209 (t0 t1 : Value) {K : Value → World → Prop} {w : World} (h : s209_p1 K t0 t1 w) : cl Tryz.prog 209 #[t0, t1] K w :=
  calls_of_tr (c := (Tryz.f209.body.getD .skip)) (fn := Tryz.f209) (q := s209_p1_den K (st0 #[t0, t1]) w) Tryz.func209 (by kernel_rfl) (by kernel_rfl) (Nat.le_of_ble_eq_true (by kernel_rfl)) (by kernel_rfl) (by kernel_rfl) (s209_p1_ok K (st0 #[t0, t1]) w @h)

/-! ### function 231 : (*e2e.bookingm.Table).arrive -/
def s231_R (K : Value → World → Prop) (s : Nat → Value) (w : World) : Prop := retv Tryz.prog s Tryz.f231.results.toList (fun vs => K (pack vs) w) w
def s231_p1 (K : Value → World → Prop) (t0 t1 t2 t3 : Value) (w : World) : Prop :=
  cl Tryz.prog 200 #[t0, t2] (fun t12 w =>
  boP .eql t12 (.pointer none) (fun t14 w =>
  ifb t14
  (K (.int .i64 2) w)
  (nck t12 (fun t16 w =>
  fd 1 t16 (fun t17 w =>
  ld1 t17 (fun t18 w =>
  boI .neq t18 t3 (fun t20 w =>
  ifb t20
  (K (.int .i64 8) w)
  (nck t12 (fun t23 w =>
  fd 6 t23 (fun t24 w =>
  ld1 t24 (fun t25 w =>
  ixs 2 t25 (.int .i64 0) (fun t26 w =>
  fd 1 t26 (fun t27 w =>
  ld1 t27 (fun t28 w =>
  boI .lss t1 t28 (fun t29 w =>
  ifb t29
  (K (.int .i64 15) w)
  (nck t12 (fun t31 w =>
  fd 1 t31 (fun t32 w =>
  st1 t32 (.int .i64 3) (fun w =>
  K (.int .i64 0) w) w) w) w)) w) w) w) w) w) w) w)) w) w) w) w)) w) w
def s231_p1_den (K : Value → World → Prop) : (Nat → Value) → World → Prop := denL Tryz.prog [(cd (Tryz.f231.body.getD .skip) [0]), (cd (Tryz.f231.body.getD .skip) [1, 0]), (cd (Tryz.f231.body.getD .skip) [1, 1, 0, 0]), (cd (Tryz.f231.body.getD .skip) [1, 1, 0, 1]), (cd (Tryz.f231.body.getD .skip) [1, 1, 1, 0, 0]), (cd (Tryz.f231.body.getD .skip) [1, 1, 1, 0, 1]), (cd (Tryz.f231.body.getD .skip) [1, 1, 1, 1, 0, 0]), (cd (Tryz.f231.body.getD .skip) [1, 1, 1, 1, 0, 1]), (cd (Tryz.f231.body.getD .skip) [1, 1, 1, 1, 1, 0]), (cd (Tryz.f231.body.getD .skip) [1, 1, 1, 1, 1, 1, 0]), (cd (Tryz.f231.body.getD .skip) [1, 1, 1, 1, 1, 1, 1])] (fun _ _ => False) (fun i => (fun _ _ => False)) (s231_R K)
theorem s231_p1_ok (K : Value → World → Prop) (s : Nat → Value) (w : World) (h : s231_p1 K (s 0) (s 1) (s 2) (s 3) w) : Tr (s231_p1_den K s w) :=
  tr_simple (P := Tryz.prog) (codes := [(cd (Tryz.f231.body.getD .skip) [0]), (cd (Tryz.f231.body.getD .skip) [1, 0]), (cd (Tryz.f231.body.getD .skip) [1, 1, 0, 0]), (cd (Tryz.f231.body.getD .skip) [1, 1, 0, 1]), (cd (Tryz.f231.body.getD .skip) [1, 1, 1, 0, 0]), (cd (Tryz.f231.body.getD .skip) [1, 1, 1, 0, 1]), (cd (Tryz.f231.body.getD .skip) [1, 1, 1, 1, 0, 0]), (cd (Tryz.f231.body.getD .skip) [1, 1, 1, 1, 0, 1]), (cd (Tryz.f231.body.getD .skip) [1, 1, 1, 1, 1, 0]), (cd (Tryz.f231.body.getD .skip) [1, 1, 1, 1, 1, 1, 0]), (cd (Tryz.f231.body.getD .skip) [1, 1, 1, 1, 1, 1, 1])]) (N := (fun _ _ => False)) (N' := (fun _ _ => False)) (X := (fun i => (fun _ _ => False))) (X' := (fun i => (fun _ _ => False))) (R := s231_R K) (s := s) (w := w) (p := s231_p1 K (s 0) (s 1) (s 2) (s 3) w) (q := s231_p1_den K s w) tr_id (fun i => tr_id) (by kernel_rfl) (by kernel_rfl) @h
/-- the call, from the text -/
theorem c231 (t0 t1 t2 t3 : Value) {K : Value → World → Prop} {w : World} (h : s231_p1 K t0 t1 t2 t3 w) : cl Tryz.prog 231 #[t0, t1, t2, t3] K w :=
  calls_of_tr (c := (Tryz.f231.body.getD .skip)) (fn := Tryz.f231) (q := s231_p1_den K (st0 #[t0, t1, t2, t3]) w) Tryz.func231 (by kernel_rfl) (by kernel_rfl) (Nat.le_of_ble_eq_true (by kernel_rfl)) (by kernel_rfl) (by kernel_rfl) (s231_p1_ok K (st0 #[t0, t1, t2, t3]) w @h)

/-! ### function 210 : (*e2e.bookingm.Table).CheckIn -/
def s210_R (K : Value → World → Prop) (s : Nat → Value) (w : World) : Prop := retv Tryz.prog s Tryz.f210.results.toList (fun vs => K (pack vs) w) w
def s210_p1 (K : Value → World → Prop) (t0 t1 t2 : Value) (w : World) : Prop :=
  cl Tryz.prog 231 #[t0, t1, t2, (.int .i64 2)] (fun t10 w =>
  K t10 w) w
def s210_p1_den (K : Value → World → Prop) : (Nat → Value) → World → Prop := denL Tryz.prog [(cd (Tryz.f210.body.getD .skip) [0]), (cd (Tryz.f210.body.getD .skip) [1, 0]), (cd (Tryz.f210.body.getD .skip) [1, 1])] (fun _ _ => False) (fun i => (fun _ _ => False)) (s210_R K)
theorem s210_p1_ok (K : Value → World → Prop) (s : Nat → Value) (w : World) (h : s210_p1 K (s 0) (s 1) (s 2) w) : Tr (s210_p1_den K s w) :=
  tr_simple (P := Tryz.prog) (codes := [(cd (Tryz.f210.body.getD .skip) [0]), (cd (Tryz.f210.body.getD .skip) [1, 0]), (cd (Tryz.f210.body.getD .skip) [1, 1])]) (N := (fun _ _ => False)) (N' := (fun _ _ => False)) (X := (fun i => (fun _ _ => False))) (X' := (fun i => (fun _ _ => False))) (R := s210_R K) (s := s) (w := w) (p := s210_p1 K (s 0) (s 1) (s 2) w) (q := s210_p1_den K s w) tr_id (fun i => tr_id) (by kernel_rfl) (by kernel_rfl) @h
/-- the call, from the text -/
theorem c210 (t0 t1 t2 : Value) {K : Value → World → Prop} {w : World} (h : s210_p1 K t0 t1 t2 w) : cl Tryz.prog 210 #[t0, t1, t2] K w :=
  calls_of_tr (c := (Tryz.f210.body.getD .skip)) (fn := Tryz.f210) (q := s210_p1_den K (st0 #[t0, t1, t2]) w) Tryz.func210 (by kernel_rfl) (by kernel_rfl) (Nat.le_of_ble_eq_true (by kernel_rfl)) (by kernel_rfl) (by kernel_rfl) (s210_p1_ok K (st0 #[t0, t1, t2]) w @h)

/-! ### function 214 : (*e2e.bookingm.Table).Redeem -/
def s214_R (K : Value → World → Prop) (s : Nat → Value) (w : World) : Prop := retv Tryz.prog s Tryz.f214.results.toList (fun vs => K (pack vs) w) w
def s214_p1 (K : Value → World → Prop) (t0 t1 t2 : Value) (w : World) : Prop :=
  cl Tryz.prog 231 #[t0, t1, t2, (.int .i64 8)] (fun t10 w =>
  K t10 w) w
def s214_p1_den (K : Value → World → Prop) : (Nat → Value) → World → Prop := denL Tryz.prog [(cd (Tryz.f214.body.getD .skip) [0]), (cd (Tryz.f214.body.getD .skip) [1, 0]), (cd (Tryz.f214.body.getD .skip) [1, 1])] (fun _ _ => False) (fun i => (fun _ _ => False)) (s214_R K)
theorem s214_p1_ok (K : Value → World → Prop) (s : Nat → Value) (w : World) (h : s214_p1 K (s 0) (s 1) (s 2) w) : Tr (s214_p1_den K s w) :=
  tr_simple (P := Tryz.prog) (codes := [(cd (Tryz.f214.body.getD .skip) [0]), (cd (Tryz.f214.body.getD .skip) [1, 0]), (cd (Tryz.f214.body.getD .skip) [1, 1])]) (N := (fun _ _ => False)) (N' := (fun _ _ => False)) (X := (fun i => (fun _ _ => False))) (X' := (fun i => (fun _ _ => False))) (R := s214_R K) (s := s) (w := w) (p := s214_p1 K (s 0) (s 1) (s 2) w) (q := s214_p1_den K s w) tr_id (fun i => tr_id) (by kernel_rfl) (by kernel_rfl) @h
/-- the call, from the text -/
theorem c214 (t0 t1 t2 : Value) {K : Value → World → Prop} {w : World} (h : s214_p1 K t0 t1 t2 w) : cl Tryz.prog 214 #[t0, t1, t2] K w :=
  calls_of_tr (c := (Tryz.f214.body.getD .skip)) (fn := Tryz.f214) (q := s214_p1_den K (st0 #[t0, t1, t2]) w) Tryz.func214 (by kernel_rfl) (by kernel_rfl) (Nat.le_of_ble_eq_true (by kernel_rfl)) (by kernel_rfl) (by kernel_rfl) (s214_p1_ok K (st0 #[t0, t1, t2]) w @h)

/-! ### function 211 : (*e2e.bookingm.Table).Rebook -/
def s211_R (K : Value → World → Prop) (s : Nat → Value) (w : World) : Prop := retv Tryz.prog s Tryz.f211.results.toList (fun vs => K (pack vs) w) w
def s211_p1 (K : Value → World → Prop) (t3 t9 t10 : Value) (w : World) : Prop :=
  boI .neq t10 (.int .i64 0) (fun t42 w =>
  ifb t42
  (K t10 w)
  (bsq 88 [(.int .i64 0), (.int .i64 0)] 0 [] (fun t45 w =>
  apq 88 [(.int .i64 0), (.int .i64 0)] 16 t45 t3 (fun t47 w =>
  nck t9 (fun t48 w =>
  fd 6 t48 (fun t49 w =>
  st1 t49 t47 (fun w =>
  K (.int .i64 0) w) w) w) w) w) w)) w
def s211_p1_den (K : Value → World → Prop) : (Nat → Value) → World → Prop := denL Tryz.prog [(cd (Tryz.f211.body.getD .skip) [1, 1, 1, 1, 0, 1, 0]), (cd (Tryz.f211.body.getD .skip) [1, 1, 1, 1, 0, 1, 1]), (cd (Tryz.f211.body.getD .skip) [1, 1, 1, 1, 1, 0]), (cd (Tryz.f211.body.getD .skip) [1, 1, 1, 1, 1, 1, 0]), (cd (Tryz.f211.body.getD .skip) [1, 1, 1, 1, 1, 1, 1])] (fun _ _ => False) (fun i => (fun _ _ => False)) (s211_R K)
theorem s211_p1_ok (K : Value → World → Prop) (s : Nat → Value) (w : World) (h : s211_p1 K (s 3) (s 9) (s 10) w) : Tr (s211_p1_den K s w) :=
  tr_simple (P := Tryz.prog) (codes := [(cd (Tryz.f211.body.getD .skip) [1, 1, 1, 1, 0, 1, 0]), (cd (Tryz.f211.body.getD .skip) [1, 1, 1, 1, 0, 1, 1]), (cd (Tryz.f211.body.getD .skip) [1, 1, 1, 1, 1, 0]), (cd (Tryz.f211.body.getD .skip) [1, 1, 1, 1, 1, 1, 0]), (cd (Tryz.f211.body.getD .skip) [1, 1, 1, 1, 1, 1, 1])]) (N := (fun _ _ => False)) (N' := (fun _ _ => False)) (X := (fun i => (fun _ _ => False))) (X' := (fun i => (fun _ _ => False))) (R := s211_R K) (s := s) (w := w) (p := s211_p1 K (s 3) (s 9) (s 10) w) (q := s211_p1_den K s w) tr_id (fun i => tr_id) (by kernel_rfl) (by kernel_rfl) @h
def s211_p2_d (K : Value → World → Prop) (t0 t1 t2 t3 t9 : Value) (w0 w : World) : Prop :=
  nck t9 (fun t31 _ =>
  fd 2 t31 (fun t32 _ =>
  ld1 t32 (fun t33 _ =>
  nck t9 (fun t35 _ =>
  fd 3 t35 (fun t36 _ =>
  ld1 t36 (fun t37 _ =>
  cl Tryz.prog 232 #[t0, t1, t33, t37, t3, t2] (fun t40 w =>
  s211_p1 K t3 t9 t40 w) w) w0) w0) w0) w0) w0) w0
def s211_p2 (K : Value → World → Prop) (t0 t1 t2 t3 t9 : Value) (w : World) : Prop := s211_p2_d K t0 t1 t2 t3 t9 (drw w) (drw w)
def s211_p2_den (K : Value → World → Prop) : (Nat → Value) → World → Prop := denL Tryz.prog [(cd (Tryz.f211.body.getD .skip) [1, 1, 1, 1, 0, 0])] (s211_p1_den K) (fun i => (fun _ _ => False)) (s211_R K)
theorem s211_p2_ok (K : Value → World → Prop) (s : Nat → Value) (w : World) (h : s211_p2 K (s 0) (s 1) (s 2) (s 3) (s 9) w) : Tr (s211_p2_den K s w) :=
  tr_draw (P := Tryz.prog) (ops := (ro (cd (Tryz.f211.body.getD .skip) [1, 1, 1, 1, 0, 0]))) (ms := [0, 0, 0, 4, 12, 28, 0, 64, 192, 448, 0, 0, 4095, 8191]) (cs := [0, 1, 2, 3, 4, 5, 6, 7, 8, 9, 10, 11]) (N := (fun s w => s211_p1 K (s 3) (s 9) (s 10) w)) (N' := (s211_p1_den K)) (s := s) (w := w) (p := s211_p2 K (s 0) (s 1) (s 2) (s 3) (s 9) w) (q := s211_p2_den K s w) (by kernel_rfl) (by kernel_rfl) (fun s w h => s211_p1_ok K s w @h) (by kernel_rfl) (by kernel_rfl) @h
def s211_p3 (K : Value → World → Prop) (t0 t1 t2 t3 : Value) (w : World) : Prop :=
  cl Tryz.prog 200 #[t0, t2] (fun t13 w =>
  boP .eql t13 (.pointer none) (fun t15 w =>
  ifb t15
  (K (.int .i64 2) w)
  (nck t13 (fun t17 w =>
  fd 1 t17 (fun t18 w =>
  ld1 t18 (fun t19 w =>
  boI .neq t19 (.int .i64 1) (fun t20 w =>
  gd t20 true (fun K w => K t13 w) (fun t22 w =>
  gd t20 true (nck t22) (fun t23 w =>
  gd t20 true (fd 1 t23) (fun t24 w =>
  gd t20 true (ld1 t24) (fun t25 w =>
  gd t20 true (boI .neq t25 (.int .i64 2)) (fun t26 w =>
  pk t20 t26 (.bool false) (fun t27 w =>
  ifb t27
  (K (.int .i64 8) w)
  (s211_p2 K t0 t1 t2 t3 t13 w)) w) w) w) w) w) w) w) w) w) w)) w) w
def s211_p3_den (K : Value → World → Prop) : (Nat → Value) → World → Prop := denL Tryz.prog [(cd (Tryz.f211.body.getD .skip) [0]), (cd (Tryz.f211.body.getD .skip) [1, 0]), (cd (Tryz.f211.body.getD .skip) [1, 1, 0, 0]), (cd (Tryz.f211.body.getD .skip) [1, 1, 0, 1]), (cd (Tryz.f211.body.getD .skip) [1, 1, 1, 0, 0]), (cd (Tryz.f211.body.getD .skip) [1, 1, 1, 0, 1])] (s211_p2_den K) (fun i => (fun _ _ => False)) (s211_R K)
theorem s211_p3_ok (K : Value → World → Prop) (s : Nat → Value) (w : World) (h : s211_p3 K (s 0) (s 1) (s 2) (s 3) w) : Tr (s211_p3_den K s w) :=
  tr_simple (P := Tryz.prog) (codes := [(cd (Tryz.f211.body.getD .skip) [0]), (cd (Tryz.f211.body.getD .skip) [1, 0]), (cd (Tryz.f211.body.getD .skip) [1, 1, 0, 0]), (cd (Tryz.f211.body.getD .skip) [1, 1, 0, 1]), (cd (Tryz.f211.body.getD .skip) [1, 1, 1, 0, 0]), (cd (Tryz.f211.body.getD .skip) [1, 1, 1, 0, 1])]) (N := (fun s w => s211_p2 K (s 0) (s 1) (s 2) (s 3) (s 9) w)) (N' := (s211_p2_den K)) (X := (fun i => (fun _ _ => False))) (X' := (fun i => (fun _ _ => False))) (R := s211_R K) (s := s) (w := w) (p := s211_p3 K (s 0) (s 1) (s 2) (s 3) w) (q := s211_p3_den K s w) (fun s w h => s211_p2_ok K s w @h) (fun i => tr_id) (by kernel_rfl) (by kernel_rfl) @h
/-- the call, from the text -/
theorem c211 (t0 t1 t2 t3 : Value) {K : Value → World → Prop} {w : World} (h : s211_p3 K t0 t1 t2 t3 w) : cl Tryz.prog 211 #[t0, t1, t2, t3] K w :=
  calls_of_tr (c := (Tryz.f211.body.getD .skip)) (fn := Tryz.f211) (q := s211_p3_den K (st0 #[t0, t1, t2, t3]) w) Tryz.func211 (by kernel_rfl) (by kernel_rfl) (Nat.le_of_ble_eq_true (by kernel_rfl)) (by kernel_rfl) (by kernel_rfl) (s211_p3_ok K (st0 #[t0, t1, t2, t3]) w @h)

/-! ### function 241 : (*e2e.bookingm.Table).Enroll -/
def s241_R (K : Value → World → Prop) (s : Nat → Value) (w : World) : Prop := retv Tryz.prog s Tryz.f241.results.toList (fun vs => K (pack vs) w) w
def s241_p1 (K : Value → World → Prop) (t0 t1 t2 t3 t20 : Value) (w : World) : Prop :=
  ifb t20
  (K (.tuple #[(.int .i64 0), (.int .i64 9)]) w)
  (boI .add t1 (.int .i64 1) (fun t25 w =>
  bdq [(.int .i64 0), (.int .i64 0), (.int .i64 0), (.int .i64 0), (.int .i64 0), (.int .i64 0), (.slice none 0 0)] [(some (1, 1), (.int .i64 7)), (some (2, 1), t2), (some (3, 1), t3), (some (4, 1), t25)] (fun t26 w =>
  cl Tryz.prog 240 #[t0, t26] (fun t27 w =>
  fi Tryz.prog 85 t27 0 (fun t28 w =>
  K (.tuple #[t28, (.int .i64 0)]) w) w) w) w) w)
def s241_p1_den (K : Value → World → Prop) : (Nat → Value) → World → Prop := denL Tryz.prog [(cd (Tryz.f241.body.getD .skip) [1, 0, 1]), (cd (Tryz.f241.body.getD .skip) [1, 1, 0]), (cd (Tryz.f241.body.getD .skip) [1, 1, 1])] (fun _ _ => False) (fun i => (fun _ _ => False)) (s241_R K)
theorem s241_p1_ok (K : Value → World → Prop) (s : Nat → Value) (w : World) (h : s241_p1 K (s 0) (s 1) (s 2) (s 3) (s 20) w) : Tr (s241_p1_den K s w) :=
  tr_simple (P := Tryz.prog) (codes := [(cd (Tryz.f241.body.getD .skip) [1, 0, 1]), (cd (Tryz.f241.body.getD .skip) [1, 1, 0]), (cd (Tryz.f241.body.getD .skip) [1, 1, 1])]) (N := (fun _ _ => False)) (N' := (fun _ _ => False)) (X := (fun i => (fun _ _ => False))) (X' := (fun i => (fun _ _ => False))) (R := s241_R K) (s := s) (w := w) (p := s241_p1 K (s 0) (s 1) (s 2) (s 3) (s 20) w) (q := s241_p1_den K s w) tr_id (fun i => tr_id) (by kernel_rfl) (by kernel_rfl) @h
def s241_p2_d (K : Value → World → Prop) (t0 t1 t2 t3 : Value) (w0 w : World) : Prop :=
  nck t0 (fun t11 _ =>
  fd 14 t11 (fun t12 _ =>
  ld1 t12 (fun t13 _ =>
  lnS t13 (fun t14 _ =>
  nck t0 (fun t16 _ =>
  fd 0 t16 (fun t17 _ =>
  fd 10 t17 (fun t18 _ =>
  ld1 t18 (fun t19 _ =>
  boI .geq t14 t19 (fun t20 _ =>
  s241_p1 K t0 t1 t2 t3 t20 w) w0) w0) w0) w0) w0) w0) w0) w0) w0
def s241_p2 (K : Value → World → Prop) (t0 t1 t2 t3 : Value) (w : World) : Prop := s241_p2_d K t0 t1 t2 t3 (drw w) (drw w)
def s241_p2_den (K : Value → World → Prop) : (Nat → Value) → World → Prop := denL Tryz.prog [(cd (Tryz.f241.body.getD .skip) [1, 0, 0])] (s241_p1_den K) (fun i => (fun _ _ => False)) (s241_R K)
theorem s241_p2_ok (K : Value → World → Prop) (s : Nat → Value) (w : World) (h : s241_p2 K (s 0) (s 1) (s 2) (s 3) w) : Tr (s241_p2_den K s w) :=
  tr_draw (P := Tryz.prog) (ops := (ro (cd (Tryz.f241.body.getD .skip) [1, 0, 0]))) (ms := [0, 1, 3, 7, 15, 0, 32, 96, 224, 480, 1023]) (cs := [0, 1, 2, 3, 4, 5, 6, 7, 8, 9, 10]) (N := (fun s w => s241_p1 K (s 0) (s 1) (s 2) (s 3) (s 20) w)) (N' := (s241_p1_den K)) (s := s) (w := w) (p := s241_p2 K (s 0) (s 1) (s 2) (s 3) w) (q := s241_p2_den K s w) (by kernel_rfl) (by kernel_rfl) (fun s w h => s241_p1_ok K s w @h) (by kernel_rfl) (by kernel_rfl) @h
def s241_p3 (K : Value → World → Prop) (t0 t1 t2 t3 : Value) (w : World) : Prop :=
  s241_p2 K t0 t1 t2 t3 w
def s241_p3_den (K : Value → World → Prop) : (Nat → Value) → World → Prop := denL Tryz.prog [(cd (Tryz.f241.body.getD .skip) [0])] (s241_p2_den K) (fun i => (fun _ _ => False)) (s241_R K)
theorem s241_p3_ok (K : Value → World → Prop) (s : Nat → Value) (w : World) (h : s241_p3 K (s 0) (s 1) (s 2) (s 3) w) : Tr (s241_p3_den K s w) :=
  tr_simple (P := Tryz.prog) (codes := [(cd (Tryz.f241.body.getD .skip) [0])]) (N := (fun s w => s241_p2 K (s 0) (s 1) (s 2) (s 3) w)) (N' := (s241_p2_den K)) (X := (fun i => (fun _ _ => False))) (X' := (fun i => (fun _ _ => False))) (R := s241_R K) (s := s) (w := w) (p := s241_p3 K (s 0) (s 1) (s 2) (s 3) w) (q := s241_p3_den K s w) (fun s w h => s241_p2_ok K s w @h) (fun i => tr_id) (by kernel_rfl) (by kernel_rfl) @h
/-- the call, from the text -/
theorem c241 (t0 t1 t2 t3 : Value) {K : Value → World → Prop} {w : World} (h : s241_p3 K t0 t1 t2 t3 w) : cl Tryz.prog 241 #[t0, t1, t2, t3] K w :=
  calls_of_tr (c := (Tryz.f241.body.getD .skip)) (fn := Tryz.f241) (q := s241_p3_den K (st0 #[t0, t1, t2, t3]) w) Tryz.func241 (by kernel_rfl) (by kernel_rfl) (Nat.le_of_ble_eq_true (by kernel_rfl)) (by kernel_rfl) (by kernel_rfl) (s241_p3_ok K (st0 #[t0, t1, t2, t3]) w @h)

/-! ### function 234 : (*e2e.bookingm.Table).Withdraw -/
def s234_R (K : Value → World → Prop) (s : Nat → Value) (w : World) : Prop := retv Tryz.prog s Tryz.f234.results.toList (fun vs => K (pack vs) w) w
def s234_p1 (K : Value → World → Prop) (t0 t1 : Value) (w : World) : Prop :=
  cl Tryz.prog 200 #[t0, t1] (fun t8 w =>
  boP .eql t8 (.pointer none) (fun t10 w =>
  ifb t10
  (K (.int .i64 2) w)
  (nck t8 (fun t12 w =>
  fd 1 t12 (fun t13 w =>
  ld1 t13 (fun t14 w =>
  boI .neq t14 (.int .i64 7) (fun t15 w =>
  ifb t15
  (K (.int .i64 8) w)
  (nck t8 (fun t17 w =>
  fd 1 t17 (fun t18 w =>
  st1 t18 (.int .i64 4) (fun w =>
  K (.int .i64 0) w) w) w) w)) w) w) w) w)) w) w
def s234_p1_den (K : Value → World → Prop) : (Nat → Value) → World → Prop := denL Tryz.prog [(cd (Tryz.f234.body.getD .skip) [0]), (cd (Tryz.f234.body.getD .skip) [1, 0]), (cd (Tryz.f234.body.getD .skip) [1, 1, 0, 0]), (cd (Tryz.f234.body.getD .skip) [1, 1, 0, 1]), (cd (Tryz.f234.body.getD .skip) [1, 1, 1, 0, 0]), (cd (Tryz.f234.body.getD .skip) [1, 1, 1, 0, 1]), (cd (Tryz.f234.body.getD .skip) [1, 1, 1, 1, 0]), (cd (Tryz.f234.body.getD .skip) [1, 1, 1, 1, 1, 0]), (cd (Tryz.f234.body.getD .skip) [1, 1, 1, 1, 1, 1])] (fun _ _ => False) (fun i => (fun _ _ => False)) (s234_R K)
theorem s234_p1_ok (K : Value → World → Prop) (s : Nat → Value) (w : World) (h : s234_p1 K (s 0) (s 1) w) : Tr (s234_p1_den K s w) :=
  tr_simple (P := Tryz.prog) (codes := [(cd (Tryz.f234.body.getD .skip) [0]), (cd (Tryz.f234.body.getD .skip) [1, 0]), (cd (Tryz.f234.body.getD .skip) [1, 1, 0, 0]), (cd (Tryz.f234.body.getD .skip) [1, 1, 0, 1]), (cd (Tryz.f234.body.getD .skip) [1, 1, 1, 0, 0]), (cd (Tryz.f234.body.getD .skip) [1, 1, 1, 0, 1]), (cd (Tryz.f234.body.getD .skip) [1, 1, 1, 1, 0]), (cd (Tryz.f234.body.getD .skip) [1, 1, 1, 1, 1, 0]), (cd (Tryz.f234.body.getD .skip) [1, 1, 1, 1, 1, 1])]) (N := (fun _ _ => False)) (N' := (fun _ _ => False)) (X := (fun i => (fun _ _ => False))) (X' := (fun i => (fun _ _ => False))) (R := s234_R K) (s := s) (w := w) (p := s234_p1 K (s 0) (s 1) w) (q := s234_p1_den K s w) tr_id (fun i => tr_id) (by kernel_rfl) (by kernel_rfl) @h
/-- the call, from the text -/
theorem c234 (t0 t1 : Value) {K : Value → World → Prop} {w : World} (h : s234_p1 K t0 t1 w) : cl Tryz.prog 234 #[t0, t1] K w :=
  calls_of_tr (c := (Tryz.f234.body.getD .skip)) (fn := Tryz.f234) (q := s234_p1_den K (st0 #[t0, t1]) w) Tryz.func234 (by kernel_rfl) (by kernel_rfl) (Nat.le_of_ble_eq_true (by kernel_rfl)) (by kernel_rfl) (by kernel_rfl) (s234_p1_ok K (st0 #[t0, t1]) w @h)

/-! ### function 242 : (*e2e.bookingm.Table).Offer -/
def s242_R (K : Value → World → Prop) (s : Nat → Value) (w : World) : Prop := retv Tryz.prog s Tryz.f242.results.toList (fun vs => K (pack vs) w) w
def s242_p1 (K : Value → World → Prop) (w : World) : Prop :=
  K (.tuple #[(.int .i64 0), (.bool false)]) w
def s242_p1_den (K : Value → World → Prop) : (Nat → Value) → World → Prop := denL Tryz.prog [(cd (Tryz.f242.body.getD .skip) [1, 1, 1, 1, 0]), (cd (Tryz.f242.body.getD .skip) [1, 1, 1, 1, 1])] (fun _ _ => False) (fun i => (fun _ _ => False)) (s242_R K)
theorem s242_p1_ok (K : Value → World → Prop) (s : Nat → Value) (w : World) (h : s242_p1 K w) : Tr (s242_p1_den K s w) :=
  tr_simple (P := Tryz.prog) (codes := [(cd (Tryz.f242.body.getD .skip) [1, 1, 1, 1, 0]), (cd (Tryz.f242.body.getD .skip) [1, 1, 1, 1, 1])]) (N := (fun _ _ => False)) (N' := (fun _ _ => False)) (X := (fun i => (fun _ _ => False))) (X' := (fun i => (fun _ _ => False))) (R := s242_R K) (s := s) (w := w) (p := s242_p1 K w) (q := s242_p1_den K s w) tr_id (fun i => tr_id) (by kernel_rfl) (by kernel_rfl) @h
def s242_p2 (K : Value → World → Prop) (B1 : List Value → World → Prop) (t0 t2 t3 t10 t11 : Value) (w : World) : Prop :=
  boI .add t11 (.int .i64 1) (fun t29 w =>
  B1 [t0, t2, t3, t10, t29] w) w
def s242_p2_den (K : Value → World → Prop) (M1 : (Nat → Value) → World → Prop) : (Nat → Value) → World → Prop := denL Tryz.prog [(cd (Tryz.f242.body.getD .skip) [1, 1, 1, 0, 1, 0, 0, 1, 1])] M1 (fun i => (bif Nat.beq i 0 then (s242_p1_den K) else (fun _ _ => False))) (s242_R K)
theorem s242_p2_ok (K : Value → World → Prop) (B1 : List Value → World → Prop) (s : Nat → Value) (w : World) (h : s242_p2 K B1 (s 0) (s 2) (s 3) (s 10) (s 11) w) : Tr (s242_p2_den K (fun s w => B1 [s 0, s 2, s 3, s 10, s 11] w) s w) :=
  tr_simple (P := Tryz.prog) (codes := [(cd (Tryz.f242.body.getD .skip) [1, 1, 1, 0, 1, 0, 0, 1, 1])]) (N := (fun s w => B1 [s 0, s 2, s 3, s 10, s 11] w)) (N' := (fun s w => B1 [s 0, s 2, s 3, s 10, s 11] w)) (X := (fun i => (bif Nat.beq i 0 then (fun s w => s242_p1 K w) else (fun _ _ => False)))) (X' := (fun i => (bif Nat.beq i 0 then (s242_p1_den K) else (fun _ _ => False)))) (R := s242_R K) (s := s) (w := w) (p := s242_p2 K B1 (s 0) (s 2) (s 3) (s 10) (s 11) w) (q := s242_p2_den K (fun s w => B1 [s 0, s 2, s 3, s 10, s 11] w) s w) tr_id (fun i => (tr_bif (fun s w h => s242_p1_ok K s w @h) tr_id)) (by kernel_rfl) (by kernel_rfl) @h
def s242_p3 (K : Value → World → Prop) (B1 : List Value → World → Prop) (t0 t2 t3 t10 t11 t49 : Value) (w : World) : Prop :=
  ifb t49
  (K (.tuple #[t11, (.bool true)]) w)
  (s242_p2 K B1 t0 t2 t3 t10 t11 w)
def s242_p3_den (K : Value → World → Prop) (M1 : (Nat → Value) → World → Prop) : (Nat → Value) → World → Prop := denL Tryz.prog [(cd (Tryz.f242.body.getD .skip) [1, 1, 1, 0, 1, 0, 0, 1, 0, 0, 1])] (s242_p2_den K M1) (fun i => (bif Nat.beq i 1 then (s242_p2_den K M1) else (bif Nat.beq i 0 then (s242_p1_den K) else (fun _ _ => False)))) (s242_R K)
theorem s242_p3_ok (K : Value → World → Prop) (B1 : List Value → World → Prop) (s : Nat → Value) (w : World) (h : s242_p3 K B1 (s 0) (s 2) (s 3) (s 10) (s 11) (s 49) w) : Tr (s242_p3_den K (fun s w => B1 [s 0, s 2, s 3, s 10, s 11] w) s w) :=
  tr_simple (P := Tryz.prog) (codes := [(cd (Tryz.f242.body.getD .skip) [1, 1, 1, 0, 1, 0, 0, 1, 0, 0, 1])]) (N := (fun s w => s242_p2 K B1 (s 0) (s 2) (s 3) (s 10) (s 11) w)) (N' := (s242_p2_den K (fun s w => B1 [s 0, s 2, s 3, s 10, s 11] w))) (X := (fun i => (bif Nat.beq i 1 then (fun s w => s242_p2 K B1 (s 0) (s 2) (s 3) (s 10) (s 11) w) else (bif Nat.beq i 0 then (fun s w => s242_p1 K w) else (fun _ _ => False))))) (X' := (fun i => (bif Nat.beq i 1 then (s242_p2_den K (fun s w => B1 [s 0, s 2, s 3, s 10, s 11] w)) else (bif Nat.beq i 0 then (s242_p1_den K) else (fun _ _ => False))))) (R := s242_R K) (s := s) (w := w) (p := s242_p3 K B1 (s 0) (s 2) (s 3) (s 10) (s 11) (s 49) w) (q := s242_p3_den K (fun s w => B1 [s 0, s 2, s 3, s 10, s 11] w) s w) (fun s w h => s242_p2_ok K B1 s w @h) (fun i => (tr_bif (fun s w h => s242_p2_ok K B1 s w @h) (tr_bif (fun s w h => s242_p1_ok K s w @h) tr_id))) (by kernel_rfl) (by kernel_rfl) @h
def s242_p4_d (K : Value → World → Prop) (B1 : List Value → World → Prop) (t0 t2 t3 t10 t11 : Value) (w0 w : World) : Prop :=
  nck t10 (fun t33 _ =>
  fd 2 t33 (fun t34 _ =>
  ld1 t34 (fun t35 _ =>
  nck t10 (fun t37 _ =>
  fd 3 t37 (fun t38 _ =>
  ld1 t38 (fun t39 _ =>
  nck t10 (fun t41 _ =>
  fd 4 t41 (fun t42 _ =>
  ld1 t42 (fun t43 _ =>
  boI .sub t43 (.int .i64 1) (fun t44 _ =>
  bdq [(.int .i64 0), (.int .i64 0)] [(some (0, 1), t44), (some (1, 1), t11)] (fun t46 _ =>
  bsq 88 [(.int .i64 0), (.int .i64 0)] 1 [(some (0, 2), t46)] (fun t47 w =>
  Below w0.heap.size w0 w ∧
  cl Tryz.prog 232 #[t0, t2, t35, t39, t47, (.int .i64 0)] (fun t48 w =>
  boI .eql t48 (.int .i64 0) (fun t49 w =>
  s242_p3 K B1 t0 t2 t3 t10 t11 t49 w) w) w) w) w0) w0) w0) w0) w0) w0) w0) w0) w0) w0) w0
def s242_p4 (K : Value → World → Prop) (B1 : List Value → World → Prop) (t0 t2 t3 t10 t11 : Value) (w : World) : Prop := s242_p4_d K B1 t0 t2 t3 t10 t11 (drw w) (drw w)
def s242_p4_den (K : Value → World → Prop) (M1 : (Nat → Value) → World → Prop) : (Nat → Value) → World → Prop := denL Tryz.prog [(cd (Tryz.f242.body.getD .skip) [1, 1, 1, 0, 1, 0, 0, 1, 0, 0, 0])] (s242_p3_den K M1) (fun i => (bif Nat.beq i 1 then (s242_p2_den K M1) else (bif Nat.beq i 0 then (s242_p1_den K) else (fun _ _ => False)))) (s242_R K)
theorem s242_p4_ok (K : Value → World → Prop) (B1 : List Value → World → Prop) (s : Nat → Value) (w : World) (h : s242_p4 K B1 (s 0) (s 2) (s 3) (s 10) (s 11) w) : Tr (s242_p4_den K (fun s w => B1 [s 0, s 2, s 3, s 10, s 11] w) s w) :=
  tr_draw (P := Tryz.prog) (ops := (ro (cd (Tryz.f242.body.getD .skip) [1, 1, 1, 0, 1, 0, 0, 1, 0, 0, 0]))) (ms := [0, 0, 0, 4, 12, 28, 0, 64, 192, 448, 0, 1024, 3072, 7168, 15360, 0, 64512, 130048, 262143, 524287]) (cs := [0, 1, 2, 3, 4, 5, 6, 7, 8, 9, 10, 11, 12, 13, 14, 15, 16]) (N := (fun s w => s242_p3 K B1 (s 0) (s 2) (s 3) (s 10) (s 11) (s 49) w)) (N' := (s242_p3_den K (fun s w => B1 [s 0, s 2, s 3, s 10, s 11] w))) (s := s) (w := w) (p := s242_p4 K B1 (s 0) (s 2) (s 3) (s 10) (s 11) w) (q := s242_p4_den K (fun s w => B1 [s 0, s 2, s 3, s 10, s 11] w) s w) (by kernel_rfl) (by kernel_rfl) (fun s w h => s242_p3_ok K B1 s w @h) (by kernel_rfl) (by kernel_rfl) @h
def s242_p5 (K : Value → World → Prop) (B1 : List Value → World → Prop) (t0 t2 t3 t10 t11 : Value) (w : World) : Prop :=
  boI .leq t11 t3 (fun t27 w =>
  ifb t27
  (s242_p4 K B1 t0 t2 t3 t10 t11 w)
  (s242_p1 K w)) w
def s242_p5_den (K : Value → World → Prop) (M1 : (Nat → Value) → World → Prop) : (Nat → Value) → World → Prop := denL Tryz.prog [(cd (Tryz.f242.body.getD .skip) [1, 1, 1, 0, 1, 0, 0, 0, 0]), (cd (Tryz.f242.body.getD .skip) [1, 1, 1, 0, 1, 0, 0, 0, 1])] (s242_p4_den K M1) (fun i => (bif Nat.beq i 0 then (s242_p1_den K) else (fun _ _ => False))) (s242_R K)
theorem s242_p5_ok (K : Value → World → Prop) (B1 : List Value → World → Prop) (s : Nat → Value) (w : World) (h : s242_p5 K B1 (s 0) (s 2) (s 3) (s 10) (s 11) w) : Tr (s242_p5_den K (fun s w => B1 [s 0, s 2, s 3, s 10, s 11] w) s w) :=
  tr_simple (P := Tryz.prog) (codes := [(cd (Tryz.f242.body.getD .skip) [1, 1, 1, 0, 1, 0, 0, 0, 0]), (cd (Tryz.f242.body.getD .skip) [1, 1, 1, 0, 1, 0, 0, 0, 1])]) (N := (fun s w => s242_p4 K B1 (s 0) (s 2) (s 3) (s 10) (s 11) w)) (N' := (s242_p4_den K (fun s w => B1 [s 0, s 2, s 3, s 10, s 11] w))) (X := (fun i => (bif Nat.beq i 0 then (fun s w => s242_p1 K w) else (fun _ _ => False)))) (X' := (fun i => (bif Nat.beq i 0 then (s242_p1_den K) else (fun _ _ => False)))) (R := s242_R K) (s := s) (w := w) (p := s242_p5 K B1 (s 0) (s 2) (s 3) (s 10) (s 11) w) (q := s242_p5_den K (fun s w => B1 [s 0, s 2, s 3, s 10, s 11] w) s w) (fun s w h => s242_p4_ok K B1 s w @h) (fun i => (tr_bif (fun s w h => s242_p1_ok K s w @h) tr_id)) (by kernel_rfl) (by kernel_rfl) @h
def s242_p6_F (K : Value → World → Prop) (B1 : List Value → World → Prop) (l : List Value) (w : World) : Prop :=
  match l with
  | [t0, t2, t3, t10, t11] => s242_p5 K B1 t0 t2 t3 t10 t11 w
  | _ => False
theorem s242_p6_Fe {K : Value → World → Prop} {B1 : List Value → World → Prop} {t0 t2 t3 t10 t11 : Value} {w : World} : s242_p6_F K B1 [t0, t2, t3, t10, t11] w = s242_p5 K B1 t0 t2 t3 t10 t11 w := by kernel_rfl
def s242_p6 (K : Value → World → Prop) (t0 t2 t3 t10 t11 : Value) (w : World) : Prop :=
  LoopL (s242_p6_F K) [t0, t2, t3, t10, t11] w
def s242_p6_den (K : Value → World → Prop) : (Nat → Value) → World → Prop := fun s w => LoopP (fun M1 s w => s242_p5_den K M1 s w) s w
theorem s242_p6_ok (K : Value → World → Prop) (s : Nat → Value) (w : World) (h : s242_p6 K (s 0) (s 2) (s 3) (s 10) (s 11) w) : Tr (s242_p6_den K s w) :=
  tr_loop (G := fun N' s w => s242_p5_den K N' s w) (F := s242_p6_F K) (sel := fun s => [s 0, s 2, s 3, s 10, s 11]) (s := s) (w := w) (p := s242_p6 K (s 0) (s 2) (s 3) (s 10) (s 11) w) (q := s242_p6_den K s w) (fun B s w h => s242_p5_ok K B s w @h) (by kernel_rfl) (by kernel_rfl) @h
def s242_p7 (K : Value → World → Prop) (t0 t1 t2 t3 : Value) (w : World) : Prop :=
  cl Tryz.prog 200 #[t0, t1] (fun t14 w =>
  boP .eql t14 (.pointer none) (fun t16 w =>
  gd t16 false (fun K w => K t14 w) (fun t18 w =>
  gd t16 false (nck t18) (fun t19 w =>
  gd t16 false (fd 1 t19) (fun t20 w =>
  gd t16 false (ld1 t20) (fun t21 w =>
  gd t16 false (boI .neq t21 (.int .i64 7)) (fun t22 w =>
  pk t16 (.bool true) t22 (fun t23 w =>
  ifb t23
  (K (.tuple #[(.int .i64 0), (.bool false)]) w)
  (s242_p6 K t0 t2 t3 t14 t2 w)) w) w) w) w) w) w) w) w
def s242_p7_den (K : Value → World → Prop) : (Nat → Value) → World → Prop := denL Tryz.prog [(cd (Tryz.f242.body.getD .skip) [0]), (cd (Tryz.f242.body.getD .skip) [1, 0]), (cd (Tryz.f242.body.getD .skip) [1, 1, 0, 0]), (cd (Tryz.f242.body.getD .skip) [1, 1, 0, 1]), (cd (Tryz.f242.body.getD .skip) [1, 1, 1, 0, 0])] (s242_p6_den K) (fun i => (fun _ _ => False)) (s242_R K)
theorem s242_p7_ok (K : Value → World → Prop) (s : Nat → Value) (w : World) (h : s242_p7 K (s 0) (s 1) (s 2) (s 3) w) : Tr (s242_p7_den K s w) :=
  tr_simple (P := Tryz.prog) (codes := [(cd (Tryz.f242.body.getD .skip) [0]), (cd (Tryz.f242.body.getD .skip) [1, 0]), (cd (Tryz.f242.body.getD .skip) [1, 1, 0, 0]), (cd (Tryz.f242.body.getD .skip) [1, 1, 0, 1]), (cd (Tryz.f242.body.getD .skip) [1, 1, 1, 0, 0])]) (N := (fun s w => s242_p6 K (s 0) (s 2) (s 3) (s 10) (s 11) w)) (N' := (s242_p6_den K)) (X := (fun i => (fun _ _ => False))) (X' := (fun i => (fun _ _ => False))) (R := s242_R K) (s := s) (w := w) (p := s242_p7 K (s 0) (s 1) (s 2) (s 3) w) (q := s242_p7_den K s w) (fun s w h => s242_p6_ok K s w @h) (fun i => tr_id) (by kernel_rfl) (by kernel_rfl) @h
/-- the call, from the text -/
theorem c242 (t0 t1 t2 t3 : Value) {K : Value → World → Prop} {w : World} (h : s242_p7 K t0 t1 t2 t3 w) : cl Tryz.prog 242 #[t0, t1, t2, t3] K w :=
  calls_of_tr (c := (Tryz.f242.body.getD .skip)) (fn := Tryz.f242) (q := s242_p7_den K (st0 #[t0, t1, t2, t3]) w) Tryz.func242 (by kernel_rfl) (by kernel_rfl) (Nat.le_of_ble_eq_true (by kernel_rfl)) (by kernel_rfl) (by kernel_rfl) (s242_p7_ok K (st0 #[t0, t1, t2, t3]) w @h)

/-! ### function 243 : (*e2e.bookingm.Table).Issue -/
def s243_R (K : Value → World → Prop) (s : Nat → Value) (w : World) : Prop := retv Tryz.prog s Tryz.f243.results.toList (fun vs => K (pack vs) w) w
def s243_p1 (K : Value → World → Prop) (t0 t1 t2 : Value) (w : World) : Prop :=
  cl Tryz.prog 200 #[t0, t1] (fun t10 w =>
  boP .eql t10 (.pointer none) (fun t12 w =>
  ifb t12
  (K (.int .i64 2) w)
  (nck t10 (fun t14 w =>
  fd 1 t14 (fun t15 w =>
  ld1 t15 (fun t16 w =>
  boI .neq t16 (.int .i64 7) (fun t17 w =>
  ifb t17
  (K (.int .i64 8) w)
  (nck t10 (fun t19 w =>
  fd 1 t19 (fun t20 w =>
  st1 t20 (.int .i64 8) (fun w =>
  nck t10 (fun t23 w =>
  fd 4 t23 (fun t24 w =>
  ld1 t24 (fun t25 w =>
  boI .sub t25 (.int .i64 1) (fun t26 w =>
  bdq [(.int .i64 0), (.int .i64 0)] [(some (0, 1), t26), (some (1, 1), t2)] (fun t28 w =>
  bsq 88 [(.int .i64 0), (.int .i64 0)] 1 [(some (0, 2), t28)] (fun t29 w =>
  nck t10 (fun t30 w =>
  fd 6 t30 (fun t31 w =>
  st1 t31 t29 (fun w =>
  K (.int .i64 0) w) w) w) w) w) w) w) w) w) w) w) w) w)) w) w) w) w)) w) w
def s243_p1_den (K : Value → World → Prop) : (Nat → Value) → World → Prop := denL Tryz.prog [(cd (Tryz.f243.body.getD .skip) [0]), (cd (Tryz.f243.body.getD .skip) [1, 0]), (cd (Tryz.f243.body.getD .skip) [1, 1, 0, 0]), (cd (Tryz.f243.body.getD .skip) [1, 1, 0, 1]), (cd (Tryz.f243.body.getD .skip) [1, 1, 1, 0, 0]), (cd (Tryz.f243.body.getD .skip) [1, 1, 1, 0, 1]), (cd (Tryz.f243.body.getD .skip) [1, 1, 1, 1, 0]), (cd (Tryz.f243.body.getD .skip) [1, 1, 1, 1, 1, 0]), (cd (Tryz.f243.body.getD .skip) [1, 1, 1, 1, 1, 1, 0]), (cd (Tryz.f243.body.getD .skip) [1, 1, 1, 1, 1, 1, 1])] (fun _ _ => False) (fun i => (fun _ _ => False)) (s243_R K)
theorem s243_p1_ok (K : Value → World → Prop) (s : Nat → Value) (w : World) (h : s243_p1 K (s 0) (s 1) (s 2) w) : Tr (s243_p1_den K s w) :=
  tr_simple (P := Tryz.prog) (codes := [(cd (Tryz.f243.body.getD .skip) [0]), (cd (Tryz.f243.body.getD .skip) [1, 0]), (cd (Tryz.f243.body.getD .skip) [1, 1, 0, 0]), (cd (Tryz.f243.body.getD .skip) [1, 1, 0, 1]), (cd (Tryz.f243.body.getD .skip) [1, 1, 1, 0, 0]), (cd (Tryz.f243.body.getD .skip) [1, 1, 1, 0, 1]), (cd (Tryz.f243.body.getD .skip) [1, 1, 1, 1, 0]), (cd (Tryz.f243.body.getD .skip) [1, 1, 1, 1, 1, 0]), (cd (Tryz.f243.body.getD .skip) [1, 1, 1, 1, 1, 1, 0]), (cd (Tryz.f243.body.getD .skip) [1, 1, 1, 1, 1, 1, 1])]) (N := (fun _ _ => False)) (N' := (fun _ _ => False)) (X := (fun i => (fun _ _ => False))) (X' := (fun i => (fun _ _ => False))) (R := s243_R K) (s := s) (w := w) (p := s243_p1 K (s 0) (s 1) (s 2) w) (q := s243_p1_den K s w) tr_id (fun i => tr_id) (by kernel_rfl) (by kernel_rfl) @h
/-- the call, from the text -/
theorem c243 (t0 t1 t2 : Value) {K : Value → World → Prop} {w : World} (h : s243_p1 K t0 t1 t2 w) : cl Tryz.prog 243 #[t0, t1, t2] K w :=
  calls_of_tr (c := (Tryz.f243.body.getD .skip)) (fn := Tryz.f243) (q := s243_p1_den K (st0 #[t0, t1, t2]) w) Tryz.func243 (by kernel_rfl) (by kernel_rfl) (Nat.le_of_ble_eq_true (by kernel_rfl)) (by kernel_rfl) (by kernel_rfl) (s243_p1_ok K (st0 #[t0, t1, t2]) w @h)

/-! ### function 237 : (*e2e.bookingm.Table).Sweep -/
def s237_R (K : Value → World → Prop) (s : Nat → Value) (w : World) : Prop := retv Tryz.prog s Tryz.f237.results.toList (fun vs => K (pack vs) w) w
def s237_p1 (K : Value → World → Prop) (t4 t5 t6 : Value) (w : World) : Prop :=
  K (.tuple #[t4, t5, t6]) w
def s237_p1_den (K : Value → World → Prop) : (Nat → Value) → World → Prop := denL Tryz.prog [(cd (Tryz.f237.body.getD .skip) [1, 1, 0]), (cd (Tryz.f237.body.getD .skip) [1, 1, 1])] (fun _ _ => False) (fun i => (fun _ _ => False)) (s237_R K)
theorem s237_p1_ok (K : Value → World → Prop) (s : Nat → Value) (w : World) (h : s237_p1 K (s 4) (s 5) (s 6) w) : Tr (s237_p1_den K s w) :=
  tr_simple (P := Tryz.prog) (codes := [(cd (Tryz.f237.body.getD .skip) [1, 1, 0]), (cd (Tryz.f237.body.getD .skip) [1, 1, 1])]) (N := (fun _ _ => False)) (N' := (fun _ _ => False)) (X := (fun i => (fun _ _ => False))) (X' := (fun i => (fun _ _ => False))) (R := s237_R K) (s := s) (w := w) (p := s237_p1 K (s 4) (s 5) (s 6) w) (q := s237_p1_den K s w) tr_id (fun i => tr_id) (by kernel_rfl) (by kernel_rfl) @h
def s237_p2 (K : Value → World → Prop) (B1 : List Value → World → Prop) (t0 t1 t4 t5 t6 t13 t14 : Value) (w : World) : Prop :=
  boI .add t14 (.int .i64 1) (fun t98 w =>
  B1 [t0, t1, t4, t5, t6, t13, t98] w) w
def s237_p2_den (K : Value → World → Prop) (M1 : (Nat → Value) → World → Prop) : (Nat → Value) → World → Prop := denL Tryz.prog [(cd (Tryz.f237.body.getD .skip) [1, 0, 1, 0, 0, 1, 1, 1])] M1 (fun i => (bif Nat.beq i 0 then (s237_p1_den K) else (fun _ _ => False))) (s237_R K)
theorem s237_p2_ok (K : Value → World → Prop) (B1 : List Value → World → Prop) (s : Nat → Value) (w : World) (h : s237_p2 K B1 (s 0) (s 1) (s 4) (s 5) (s 6) (s 13) (s 14) w) : Tr (s237_p2_den K (fun s w => B1 [s 0, s 1, s 4, s 5, s 6, s 13, s 14] w) s w) :=
  tr_simple (P := Tryz.prog) (codes := [(cd (Tryz.f237.body.getD .skip) [1, 0, 1, 0, 0, 1, 1, 1])]) (N := (fun s w => B1 [s 0, s 1, s 4, s 5, s 6, s 13, s 14] w)) (N' := (fun s w => B1 [s 0, s 1, s 4, s 5, s 6, s 13, s 14] w)) (X := (fun i => (bif Nat.beq i 0 then (fun s w => s237_p1 K (s 4) (s 5) (s 6) w) else (fun _ _ => False)))) (X' := (fun i => (bif Nat.beq i 0 then (s237_p1_den K) else (fun _ _ => False)))) (R := s237_R K) (s := s) (w := w) (p := s237_p2 K B1 (s 0) (s 1) (s 4) (s 5) (s 6) (s 13) (s 14) w) (q := s237_p2_den K (fun s w => B1 [s 0, s 1, s 4, s 5, s 6, s 13, s 14] w) s w) tr_id (fun i => (tr_bif (fun s w h => s237_p1_ok K s w @h) tr_id)) (by kernel_rfl) (by kernel_rfl) @h
def s237_p3 (K : Value → World → Prop) (B1 : List Value → World → Prop) (t0 t1 t4 t5 t6 t8 t13 t14 : Value) (w : World) : Prop :=
  nck t8 (fun t38 w =>
  fd 1 t38 (fun t39 w =>
  st1 t39 (.int .i64 6) (fun w =>
  boI .add t4 (.int .i64 1) (fun t41 w =>
  s237_p2 K B1 t0 t1 t41 t5 t6 t13 t14 w) w) w) w) w
def s237_p3_den (K : Value → World → Prop) (M1 : (Nat → Value) → World → Prop) : (Nat → Value) → World → Prop := denL Tryz.prog [(cd (Tryz.f237.body.getD .skip) [1, 0, 1, 0, 0, 1, 1, 0, 0, 1, 1, 0, 1, 0, 0]), (cd (Tryz.f237.body.getD .skip) [1, 0, 1, 0, 0, 1, 1, 0, 0, 1, 1, 0, 1, 0, 1])] (s237_p2_den K M1) (fun i => (bif Nat.beq i 2 then (s237_p2_den K M1) else (bif Nat.beq i 1 then (s237_p2_den K M1) else (bif Nat.beq i 0 then (s237_p1_den K) else (fun _ _ => False))))) (s237_R K)
theorem s237_p3_ok (K : Value → World → Prop) (B1 : List Value → World → Prop) (s : Nat → Value) (w : World) (h : s237_p3 K B1 (s 0) (s 1) (s 4) (s 5) (s 6) (s 8) (s 13) (s 14) w) : Tr (s237_p3_den K (fun s w => B1 [s 0, s 1, s 4, s 5, s 6, s 13, s 14] w) s w) :=
  tr_simple (P := Tryz.prog) (codes := [(cd (Tryz.f237.body.getD .skip) [1, 0, 1, 0, 0, 1, 1, 0, 0, 1, 1, 0, 1, 0, 0]), (cd (Tryz.f237.body.getD .skip) [1, 0, 1, 0, 0, 1, 1, 0, 0, 1, 1, 0, 1, 0, 1])]) (N := (fun s w => s237_p2 K B1 (s 0) (s 1) (s 4) (s 5) (s 6) (s 13) (s 14) w)) (N' := (s237_p2_den K (fun s w => B1 [s 0, s 1, s 4, s 5, s 6, s 13, s 14] w))) (X := (fun i => (bif Nat.beq i 2 then (fun s w => s237_p2 K B1 (s 0) (s 1) (s 4) (s 5) (s 6) (s 13) (s 14) w) else (bif Nat.beq i 1 then (fun s w => s237_p2 K B1 (s 0) (s 1) (s 4) (s 5) (s 6) (s 13) (s 14) w) else (bif Nat.beq i 0 then (fun s w => s237_p1 K (s 4) (s 5) (s 6) w) else (fun _ _ => False)))))) (X' := (fun i => (bif Nat.beq i 2 then (s237_p2_den K (fun s w => B1 [s 0, s 1, s 4, s 5, s 6, s 13, s 14] w)) else (bif Nat.beq i 1 then (s237_p2_den K (fun s w => B1 [s 0, s 1, s 4, s 5, s 6, s 13, s 14] w)) else (bif Nat.beq i 0 then (s237_p1_den K) else (fun _ _ => False)))))) (R := s237_R K) (s := s) (w := w) (p := s237_p3 K B1 (s 0) (s 1) (s 4) (s 5) (s 6) (s 8) (s 13) (s 14) w) (q := s237_p3_den K (fun s w => B1 [s 0, s 1, s 4, s 5, s 6, s 13, s 14] w) s w) (fun s w h => s237_p2_ok K B1 s w @h) (fun i => (tr_bif (fun s w h => s237_p2_ok K B1 s w @h) (tr_bif (fun s w h => s237_p2_ok K B1 s w @h) (tr_bif (fun s w h => s237_p1_ok K s w @h) tr_id)))) (by kernel_rfl) (by kernel_rfl) @h
def s237_p4 (K : Value → World → Prop) (B1 : List Value → World → Prop) (t0 t1 t4 t5 t6 t8 t13 t14 : Value) (w : World) : Prop :=
  nck t8 (fun t66 w =>
  fd 1 t66 (fun t67 w =>
  st1 t67 (.int .i64 5) (fun w =>
  boI .add t5 (.int .i64 1) (fun t69 w =>
  s237_p2 K B1 t0 t1 t4 t69 t6 t13 t14 w) w) w) w) w
def s237_p4_den (K : Value → World → Prop) (M1 : (Nat → Value) → World → Prop) : (Nat → Value) → World → Prop := denL Tryz.prog [(cd (Tryz.f237.body.getD .skip) [1, 0, 1, 0, 0, 1, 1, 0, 0, 1, 1, 0, 1, 1, 1, 0, 0]), (cd (Tryz.f237.body.getD .skip) [1, 0, 1, 0, 0, 1, 1, 0, 0, 1, 1, 0, 1, 1, 1, 0, 1])] (s237_p2_den K M1) (fun i => (bif Nat.beq i 2 then (s237_p2_den K M1) else (bif Nat.beq i 1 then (s237_p2_den K M1) else (bif Nat.beq i 0 then (s237_p1_den K) else (fun _ _ => False))))) (s237_R K)
theorem s237_p4_ok (K : Value → World → Prop) (B1 : List Value → World → Prop) (s : Nat → Value) (w : World) (h : s237_p4 K B1 (s 0) (s 1) (s 4) (s 5) (s 6) (s 8) (s 13) (s 14) w) : Tr (s237_p4_den K (fun s w => B1 [s 0, s 1, s 4, s 5, s 6, s 13, s 14] w) s w) :=
  tr_simple (P := Tryz.prog) (codes := [(cd (Tryz.f237.body.getD .skip) [1, 0, 1, 0, 0, 1, 1, 0, 0, 1, 1, 0, 1, 1, 1, 0, 0]), (cd (Tryz.f237.body.getD .skip) [1, 0, 1, 0, 0, 1, 1, 0, 0, 1, 1, 0, 1, 1, 1, 0, 1])]) (N := (fun s w => s237_p2 K B1 (s 0) (s 1) (s 4) (s 5) (s 6) (s 13) (s 14) w)) (N' := (s237_p2_den K (fun s w => B1 [s 0, s 1, s 4, s 5, s 6, s 13, s 14] w))) (X := (fun i => (bif Nat.beq i 2 then (fun s w => s237_p2 K B1 (s 0) (s 1) (s 4) (s 5) (s 6) (s 13) (s 14) w) else (bif Nat.beq i 1 then (fun s w => s237_p2 K B1 (s 0) (s 1) (s 4) (s 5) (s 6) (s 13) (s 14) w) else (bif Nat.beq i 0 then (fun s w => s237_p1 K (s 4) (s 5) (s 6) w) else (fun _ _ => False)))))) (X' := (fun i => (bif Nat.beq i 2 then (s237_p2_den K (fun s w => B1 [s 0, s 1, s 4, s 5, s 6, s 13, s 14] w)) else (bif Nat.beq i 1 then (s237_p2_den K (fun s w => B1 [s 0, s 1, s 4, s 5, s 6, s 13, s 14] w)) else (bif Nat.beq i 0 then (s237_p1_den K) else (fun _ _ => False)))))) (R := s237_R K) (s := s) (w := w) (p := s237_p4 K B1 (s 0) (s 1) (s 4) (s 5) (s 6) (s 8) (s 13) (s 14) w) (q := s237_p4_den K (fun s w => B1 [s 0, s 1, s 4, s 5, s 6, s 13, s 14] w) s w) (fun s w h => s237_p2_ok K B1 s w @h) (fun i => (tr_bif (fun s w h => s237_p2_ok K B1 s w @h) (tr_bif (fun s w h => s237_p2_ok K B1 s w @h) (tr_bif (fun s w h => s237_p1_ok K s w @h) tr_id)))) (by kernel_rfl) (by kernel_rfl) @h
def s237_p5 (K : Value → World → Prop) (B1 : List Value → World → Prop) (t0 t1 t4 t5 t6 t8 t13 t14 t70 : Value) (w : World) : Prop :=
  ifb t70
  (nck t8 (fun t94 w =>
  fd 1 t94 (fun t95 w =>
  st1 t95 (.int .i64 9) (fun w =>
  boI .add t6 (.int .i64 1) (fun t97 w =>
  s237_p2 K B1 t0 t1 t4 t5 t97 t13 t14 w) w) w) w) w)
  (s237_p2 K B1 t0 t1 t4 t5 t6 t13 t14 w)
def s237_p5_den (K : Value → World → Prop) (M1 : (Nat → Value) → World → Prop) : (Nat → Value) → World → Prop := denL Tryz.prog [(cd (Tryz.f237.body.getD .skip) [1, 0, 1, 0, 0, 1, 1, 0, 0, 1, 1, 0, 1, 1, 1, 1, 1])] (s237_p2_den K M1) (fun i => (bif Nat.beq i 2 then (s237_p2_den K M1) else (bif Nat.beq i 1 then (s237_p2_den K M1) else (bif Nat.beq i 0 then (s237_p1_den K) else (fun _ _ => False))))) (s237_R K)
theorem s237_p5_ok (K : Value → World → Prop) (B1 : List Value → World → Prop) (s : Nat → Value) (w : World) (h : s237_p5 K B1 (s 0) (s 1) (s 4) (s 5) (s 6) (s 8) (s 13) (s 14) (s 70) w) : Tr (s237_p5_den K (fun s w => B1 [s 0, s 1, s 4, s 5, s 6, s 13, s 14] w) s w) :=
  tr_simple (P := Tryz.prog) (codes := [(cd (Tryz.f237.body.getD .skip) [1, 0, 1, 0, 0, 1, 1, 0, 0, 1, 1, 0, 1, 1, 1, 1, 1])]) (N := (fun s w => s237_p2 K B1 (s 0) (s 1) (s 4) (s 5) (s 6) (s 13) (s 14) w)) (N' := (s237_p2_den K (fun s w => B1 [s 0, s 1, s 4, s 5, s 6, s 13, s 14] w))) (X := (fun i => (bif Nat.beq i 2 then (fun s w => s237_p2 K B1 (s 0) (s 1) (s 4) (s 5) (s 6) (s 13) (s 14) w) else (bif Nat.beq i 1 then (fun s w => s237_p2 K B1 (s 0) (s 1) (s 4) (s 5) (s 6) (s 13) (s 14) w) else (bif Nat.beq i 0 then (fun s w => s237_p1 K (s 4) (s 5) (s 6) w) else (fun _ _ => False)))))) (X' := (fun i => (bif Nat.beq i 2 then (s237_p2_den K (fun s w => B1 [s 0, s 1, s 4, s 5, s 6, s 13, s 14] w)) else (bif Nat.beq i 1 then (s237_p2_den K (fun s w => B1 [s 0, s 1, s 4, s 5, s 6, s 13, s 14] w)) else (bif Nat.beq i 0 then (s237_p1_den K) else (fun _ _ => False)))))) (R := s237_R K) (s := s) (w := w) (p := s237_p5 K B1 (s 0) (s 1) (s 4) (s 5) (s 6) (s 8) (s 13) (s 14) (s 70) w) (q := s237_p5_den K (fun s w => B1 [s 0, s 1, s 4, s 5, s 6, s 13, s 14] w) s w) (fun s w h => s237_p2_ok K B1 s w @h) (fun i => (tr_bif (fun s w h => s237_p2_ok K B1 s w @h) (tr_bif (fun s w h => s237_p2_ok K B1 s w @h) (tr_bif (fun s w h => s237_p1_ok K s w @h) tr_id)))) (by kernel_rfl) (by kernel_rfl) @h
def s237_p6_d (K : Value → World → Prop) (B1 : List Value → World → Prop) (t0 t1 t4 t5 t6 t8 t13 t14 : Value) (w0 w : World) : Prop :=
  nck t8 (fun t72 _ =>
  fd 1 t72 (fun t73 _ =>
  ld1 t73 (fun t74 _ =>
  boI .eql t74 (.int .i64 8) (fun t75 _ =>
  gd t75 true (fun K w => K t8 w) (fun t77 _ =>
  gd t75 true (nck t77) (fun t78 _ =>
  gd t75 true (fd 6 t78) (fun t79 _ =>
  gd t75 true (ld1 t79) (fun t80 _ =>
  gd t75 true (ixs 2 t80 (.int .i64 0)) (fun t81 _ =>
  gd t75 true (fd 1 t81) (fun t82 _ =>
  gd t75 true (ld1 t82) (fun t83 _ =>
  gd t75 true (fun K w => K t0 w) (fun t84 _ =>
  gd t75 true (nck t84) (fun t85 _ =>
  gd t75 true (fd 0 t85) (fun t86 _ =>
  gd t75 true (fd 8 t86) (fun t87 _ =>
  gd t75 true (ld1 t87) (fun t88 _ =>
  gd t75 true (boI .add t83 t88) (fun t89 _ =>
  gd t75 true (fun K w => K t1 w) (fun t90 _ =>
  gd t75 true (boI .leq t89 t90) (fun t91 _ =>
  pk t75 t91 (.bool false) (fun t92 _ =>
  s237_p5 K B1 t0 t1 t4 t5 t6 t8 t13 t14 t92 w) w0) w0) w0) w0) w0) w0) w0) w0) w0) w0) w0) w0) w0) w0) w0) w0) w0) w0) w0) w0
def s237_p6 (K : Value → World → Prop) (B1 : List Value → World → Prop) (t0 t1 t4 t5 t6 t8 t13 t14 : Value) (w : World) : Prop := s237_p6_d K B1 t0 t1 t4 t5 t6 t8 t13 t14 (drw w) (drw w)
def s237_p6_den (K : Value → World → Prop) (M1 : (Nat → Value) → World → Prop) : (Nat → Value) → World → Prop := denL Tryz.prog [(cd (Tryz.f237.body.getD .skip) [1, 0, 1, 0, 0, 1, 1, 0, 0, 1, 1, 0, 1, 1, 1, 1, 0])] (s237_p5_den K M1) (fun i => (bif Nat.beq i 2 then (s237_p2_den K M1) else (bif Nat.beq i 1 then (s237_p2_den K M1) else (bif Nat.beq i 0 then (s237_p1_den K) else (fun _ _ => False))))) (s237_R K)
theorem s237_p6_ok (K : Value → World → Prop) (B1 : List Value → World → Prop) (s : Nat → Value) (w : World) (h : s237_p6 K B1 (s 0) (s 1) (s 4) (s 5) (s 6) (s 8) (s 13) (s 14) w) : Tr (s237_p6_den K (fun s w => B1 [s 0, s 1, s 4, s 5, s 6, s 13, s 14] w) s w) :=
  tr_draw (P := Tryz.prog) (ops := (ro (cd (Tryz.f237.body.getD .skip) [1, 0, 1, 0, 0, 1, 1, 0, 0, 1, 1, 0, 1, 1, 1, 1, 0]))) (ms := [0, 1, 3, 7, 15, 31, 63, 127, 255, 511, 1023, 2047, 4095, 63, 8255, 24639, 57407, 122943, 262143, 63, 1048575, 2097151, 4194303]) (cs := [0, 1, 2, 3, 4, 5, 6, 7, 8, 9, 10, 11, 12, 13, 14, 15, 16, 17, 18, 19, 20, 21, 22]) (N := (fun s w => s237_p5 K B1 (s 0) (s 1) (s 4) (s 5) (s 6) (s 8) (s 13) (s 14) (s 70) w)) (N' := (s237_p5_den K (fun s w => B1 [s 0, s 1, s 4, s 5, s 6, s 13, s 14] w))) (s := s) (w := w) (p := s237_p6 K B1 (s 0) (s 1) (s 4) (s 5) (s 6) (s 8) (s 13) (s 14) w) (q := s237_p6_den K (fun s w => B1 [s 0, s 1, s 4, s 5, s 6, s 13, s 14] w) s w) (by kernel_rfl) (by kernel_rfl) (fun s w h => s237_p5_ok K B1 s w @h) (by kernel_rfl) (by kernel_rfl) @h
def s237_p7 (K : Value → World → Prop) (B1 : List Value → World → Prop) (t0 t1 t4 t5 t6 t8 t13 t14 t42 : Value) (w : World) : Prop :=
  ifb t42
  (s237_p4 K B1 t0 t1 t4 t5 t6 t8 t13 t14 w)
  (s237_p6 K B1 t0 t1 t4 t5 t6 t8 t13 t14 w)
def s237_p7_den (K : Value → World → Prop) (M1 : (Nat → Value) → World → Prop) : (Nat → Value) → World → Prop := fun s w => ifb (ev s (.tmp 42)) ((s237_p4_den K M1) s w) ((s237_p6_den K M1) s w)
theorem s237_p7_ok (K : Value → World → Prop) (B1 : List Value → World → Prop) (s : Nat → Value) (w : World) (h : s237_p7 K B1 (s 0) (s 1) (s 4) (s 5) (s 6) (s 8) (s 13) (s 14) (s 42) w) : Tr (s237_p7_den K (fun s w => B1 [s 0, s 1, s 4, s 5, s 6, s 13, s 14] w) s w) :=
  tr_cond (v := ev s (.tmp 42)) (a := (fun s w => s237_p4 K B1 (s 0) (s 1) (s 4) (s 5) (s 6) (s 8) (s 13) (s 14) w) s w) (a' := (s237_p4_den K (fun s w => B1 [s 0, s 1, s 4, s 5, s 6, s 13, s 14] w)) s w) (b := (fun s w => s237_p6 K B1 (s 0) (s 1) (s 4) (s 5) (s 6) (s 8) (s 13) (s 14) w) s w) (b' := (s237_p6_den K (fun s w => B1 [s 0, s 1, s 4, s 5, s 6, s 13, s 14] w)) s w) (p := s237_p7 K B1 (s 0) (s 1) (s 4) (s 5) (s 6) (s 8) (s 13) (s 14) (s 42) w) (q := s237_p7_den K (fun s w => B1 [s 0, s 1, s 4, s 5, s 6, s 13, s 14] w) s w) ((fun s w h => s237_p4_ok K B1 s w @h) s w) ((fun s w h => s237_p6_ok K B1 s w @h) s w) (by kernel_rfl) (by kernel_rfl) @h
def s237_p8_d (K : Value → World → Prop) (B1 : List Value → World → Prop) (t0 t1 t4 t5 t6 t8 t13 t14 : Value) (w0 w : World) : Prop :=
  nck t8 (fun t44 _ =>
  fd 1 t44 (fun t45 _ =>
  ld1 t45 (fun t46 _ =>
  boI .eql t46 (.int .i64 2) (fun t47 _ =>
  gd t47 true (fun K w => K t8 w) (fun t49 _ =>
  gd t47 true (nck t49) (fun t50 _ =>
  gd t47 true (fd 6 t50) (fun t51 _ =>
  gd t47 true (ld1 t51) (fun t52 _ =>
  gd t47 true (ixs 2 t52 (.int .i64 0)) (fun t53 _ =>
  gd t47 true (fd 1 t53) (fun t54 _ =>
  gd t47 true (ld1 t54) (fun t55 _ =>
  gd t47 true (fun K w => K t0 w) (fun t56 _ =>
  gd t47 true (nck t56) (fun t57 _ =>
  gd t47 true (fd 0 t57) (fun t58 _ =>
  gd t47 true (fd 7 t58) (fun t59 _ =>
  gd t47 true (ld1 t59) (fun t60 _ =>
  gd t47 true (boI .add t55 t60) (fun t61 _ =>
  gd t47 true (fun K w => K t1 w) (fun t62 _ =>
  gd t47 true (boI .leq t61 t62) (fun t63 _ =>
  pk t47 t63 (.bool false) (fun t64 _ =>
  s237_p7 K B1 t0 t1 t4 t5 t6 t8 t13 t14 t64 w) w0) w0) w0) w0) w0) w0) w0) w0) w0) w0) w0) w0) w0) w0) w0) w0) w0) w0) w0) w0
def s237_p8 (K : Value → World → Prop) (B1 : List Value → World → Prop) (t0 t1 t4 t5 t6 t8 t13 t14 : Value) (w : World) : Prop := s237_p8_d K B1 t0 t1 t4 t5 t6 t8 t13 t14 (drw w) (drw w)
def s237_p8_den (K : Value → World → Prop) (M1 : (Nat → Value) → World → Prop) : (Nat → Value) → World → Prop := denL Tryz.prog [(cd (Tryz.f237.body.getD .skip) [1, 0, 1, 0, 0, 1, 1, 0, 0, 1, 1, 0, 1, 1, 0])] (s237_p7_den K M1) (fun i => (bif Nat.beq i 2 then (s237_p2_den K M1) else (bif Nat.beq i 1 then (s237_p2_den K M1) else (bif Nat.beq i 0 then (s237_p1_den K) else (fun _ _ => False))))) (s237_R K)
theorem s237_p8_ok (K : Value → World → Prop) (B1 : List Value → World → Prop) (s : Nat → Value) (w : World) (h : s237_p8 K B1 (s 0) (s 1) (s 4) (s 5) (s 6) (s 8) (s 13) (s 14) w) : Tr (s237_p8_den K (fun s w => B1 [s 0, s 1, s 4, s 5, s 6, s 13, s 14] w) s w) :=
  tr_draw (P := Tryz.prog) (ops := (ro (cd (Tryz.f237.body.getD .skip) [1, 0, 1, 0, 0, 1, 1, 0, 0, 1, 1, 0, 1, 1, 0]))) (ms := [0, 1, 3, 7, 15, 31, 63, 127, 255, 511, 1023, 2047, 4095, 63, 8255, 24639, 57407, 122943, 262143, 63, 1048575, 2097151, 4194303]) (cs := [0, 1, 2, 3, 4, 5, 6, 7, 8, 9, 10, 11, 12, 13, 14, 15, 16, 17, 18, 19, 20, 21, 22]) (N := (fun s w => s237_p7 K B1 (s 0) (s 1) (s 4) (s 5) (s 6) (s 8) (s 13) (s 14) (s 42) w)) (N' := (s237_p7_den K (fun s w => B1 [s 0, s 1, s 4, s 5, s 6, s 13, s 14] w))) (s := s) (w := w) (p := s237_p8 K B1 (s 0) (s 1) (s 4) (s 5) (s 6) (s 8) (s 13) (s 14) w) (q := s237_p8_den K (fun s w => B1 [s 0, s 1, s 4, s 5, s 6, s 13, s 14] w) s w) (by kernel_rfl) (by kernel_rfl) (fun s w h => s237_p7_ok K B1 s w @h) (by kernel_rfl) (by kernel_rfl) @h
def s237_p9 (K : Value → World → Prop) (B1 : List Value → World → Prop) (t0 t1 t4 t5 t6 t8 t13 t14 t23 : Value) (w : World) : Prop :=
  ifb t23
  (s237_p3 K B1 t0 t1 t4 t5 t6 t8 t13 t14 w)
  (s237_p8 K B1 t0 t1 t4 t5 t6 t8 t13 t14 w)
def s237_p9_den (K : Value → World → Prop) (M1 : (Nat → Value) → World → Prop) : (Nat → Value) → World → Prop := fun s w => ifb (ev s (.tmp 23)) ((s237_p3_den K M1) s w) ((s237_p8_den K M1) s w)
theorem s237_p9_ok (K : Value → World → Prop) (B1 : List Value → World → Prop) (s : Nat → Value) (w : World) (h : s237_p9 K B1 (s 0) (s 1) (s 4) (s 5) (s 6) (s 8) (s 13) (s 14) (s 23) w) : Tr (s237_p9_den K (fun s w => B1 [s 0, s 1, s 4, s 5, s 6, s 13, s 14] w) s w) :=
  tr_cond (v := ev s (.tmp 23)) (a := (fun s w => s237_p3 K B1 (s 0) (s 1) (s 4) (s 5) (s 6) (s 8) (s 13) (s 14) w) s w) (a' := (s237_p3_den K (fun s w => B1 [s 0, s 1, s 4, s 5, s 6, s 13, s 14] w)) s w) (b := (fun s w => s237_p8 K B1 (s 0) (s 1) (s 4) (s 5) (s 6) (s 8) (s 13) (s 14) w) s w) (b' := (s237_p8_den K (fun s w => B1 [s 0, s 1, s 4, s 5, s 6, s 13, s 14] w)) s w) (p := s237_p9 K B1 (s 0) (s 1) (s 4) (s 5) (s 6) (s 8) (s 13) (s 14) (s 23) w) (q := s237_p9_den K (fun s w => B1 [s 0, s 1, s 4, s 5, s 6, s 13, s 14] w) s w) ((fun s w h => s237_p3_ok K B1 s w @h) s w) ((fun s w h => s237_p8_ok K B1 s w @h) s w) (by kernel_rfl) (by kernel_rfl) @h
def s237_p10 (K : Value → World → Prop) (B1 : List Value → World → Prop) (t0 t1 t4 t5 t6 t8 t13 t14 : Value) (w : World) : Prop :=
  nck t8 (fun t25 w =>
  fd 1 t25 (fun t26 w =>
  ld1 t26 (fun t27 w =>
  boI .eql t27 (.int .i64 1) (fun t28 w =>
  gd t28 true (fun K w => K t8 w) (fun t30 w =>
  gd t28 true (nck t30) (fun t31 w =>
  gd t28 true (fd 5 t31) (fun t32 w =>
  gd t28 true (ld1 t32) (fun t33 w =>
  gd t28 true (fun K w => K t1 w) (fun t34 w =>
  gd t28 true (boI .leq t33 t34) (fun t35 w =>
  pk t28 t35 (.bool false) (fun t36 w =>
  s237_p9 K B1 t0 t1 t4 t5 t6 t8 t13 t14 t36 w) w) w) w) w) w) w) w) w) w) w) w
def s237_p10_den (K : Value → World → Prop) (M1 : (Nat → Value) → World → Prop) : (Nat → Value) → World → Prop := denL Tryz.prog [(cd (Tryz.f237.body.getD .skip) [1, 0, 1, 0, 0, 1, 1, 0, 0, 1, 1, 0, 0])] (s237_p9_den K M1) (fun i => (bif Nat.beq i 2 then (s237_p2_den K M1) else (bif Nat.beq i 1 then (s237_p2_den K M1) else (bif Nat.beq i 0 then (s237_p1_den K) else (fun _ _ => False))))) (s237_R K)
theorem s237_p10_ok (K : Value → World → Prop) (B1 : List Value → World → Prop) (s : Nat → Value) (w : World) (h : s237_p10 K B1 (s 0) (s 1) (s 4) (s 5) (s 6) (s 8) (s 13) (s 14) w) : Tr (s237_p10_den K (fun s w => B1 [s 0, s 1, s 4, s 5, s 6, s 13, s 14] w) s w) :=
  tr_simple (P := Tryz.prog) (codes := [(cd (Tryz.f237.body.getD .skip) [1, 0, 1, 0, 0, 1, 1, 0, 0, 1, 1, 0, 0])]) (N := (fun s w => s237_p9 K B1 (s 0) (s 1) (s 4) (s 5) (s 6) (s 8) (s 13) (s 14) (s 23) w)) (N' := (s237_p9_den K (fun s w => B1 [s 0, s 1, s 4, s 5, s 6, s 13, s 14] w))) (X := (fun i => (bif Nat.beq i 2 then (fun s w => s237_p2 K B1 (s 0) (s 1) (s 4) (s 5) (s 6) (s 13) (s 14) w) else (bif Nat.beq i 1 then (fun s w => s237_p2 K B1 (s 0) (s 1) (s 4) (s 5) (s 6) (s 13) (s 14) w) else (bif Nat.beq i 0 then (fun s w => s237_p1 K (s 4) (s 5) (s 6) w) else (fun _ _ => False)))))) (X' := (fun i => (bif Nat.beq i 2 then (s237_p2_den K (fun s w => B1 [s 0, s 1, s 4, s 5, s 6, s 13, s 14] w)) else (bif Nat.beq i 1 then (s237_p2_den K (fun s w => B1 [s 0, s 1, s 4, s 5, s 6, s 13, s 14] w)) else (bif Nat.beq i 0 then (s237_p1_den K) else (fun _ _ => False)))))) (R := s237_R K) (s := s) (w := w) (p := s237_p10 K B1 (s 0) (s 1) (s 4) (s 5) (s 6) (s 8) (s 13) (s 14) w) (q := s237_p10_den K (fun s w => B1 [s 0, s 1, s 4, s 5, s 6, s 13, s 14] w) s w) (fun s w h => s237_p9_ok K B1 s w @h) (fun i => (tr_bif (fun s w h => s237_p2_ok K B1 s w @h) (tr_bif (fun s w h => s237_p2_ok K B1 s w @h) (tr_bif (fun s w h => s237_p1_ok K s w @h) tr_id)))) (by kernel_rfl) (by kernel_rfl) @h
def s237_p11 (K : Value → World → Prop) (B1 : List Value → World → Prop) (t0 t1 t4 t5 t6 t13 t14 : Value) (w : World) : Prop :=
  nck t0 (fun t18 w =>
  fd 14 t18 (fun t19 w =>
  ld1 t19 (fun t20 w =>
  ixs 7 t20 t14 (fun t22 w =>
  s237_p10 K B1 t0 t1 t4 t5 t6 t22 t13 t14 w) w) w) w) w
def s237_p11_den (K : Value → World → Prop) (M1 : (Nat → Value) → World → Prop) : (Nat → Value) → World → Prop := denL Tryz.prog [(cd (Tryz.f237.body.getD .skip) [1, 0, 1, 0, 0, 1, 1, 0, 0, 0]), (cd (Tryz.f237.body.getD .skip) [1, 0, 1, 0, 0, 1, 1, 0, 0, 1, 0])] (s237_p10_den K M1) (fun i => (bif Nat.beq i 1 then (s237_p2_den K M1) else (bif Nat.beq i 0 then (s237_p1_den K) else (fun _ _ => False)))) (s237_R K)
theorem s237_p11_ok (K : Value → World → Prop) (B1 : List Value → World → Prop) (s : Nat → Value) (w : World) (h : s237_p11 K B1 (s 0) (s 1) (s 4) (s 5) (s 6) (s 13) (s 14) w) : Tr (s237_p11_den K (fun s w => B1 [s 0, s 1, s 4, s 5, s 6, s 13, s 14] w) s w) :=
  tr_simple (P := Tryz.prog) (codes := [(cd (Tryz.f237.body.getD .skip) [1, 0, 1, 0, 0, 1, 1, 0, 0, 0]), (cd (Tryz.f237.body.getD .skip) [1, 0, 1, 0, 0, 1, 1, 0, 0, 1, 0])]) (N := (fun s w => s237_p10 K B1 (s 0) (s 1) (s 4) (s 5) (s 6) (s 8) (s 13) (s 14) w)) (N' := (s237_p10_den K (fun s w => B1 [s 0, s 1, s 4, s 5, s 6, s 13, s 14] w))) (X := (fun i => (bif Nat.beq i 1 then (fun s w => s237_p2 K B1 (s 0) (s 1) (s 4) (s 5) (s 6) (s 13) (s 14) w) else (bif Nat.beq i 0 then (fun s w => s237_p1 K (s 4) (s 5) (s 6) w) else (fun _ _ => False))))) (X' := (fun i => (bif Nat.beq i 1 then (s237_p2_den K (fun s w => B1 [s 0, s 1, s 4, s 5, s 6, s 13, s 14] w)) else (bif Nat.beq i 0 then (s237_p1_den K) else (fun _ _ => False))))) (R := s237_R K) (s := s) (w := w) (p := s237_p11 K B1 (s 0) (s 1) (s 4) (s 5) (s 6) (s 13) (s 14) w) (q := s237_p11_den K (fun s w => B1 [s 0, s 1, s 4, s 5, s 6, s 13, s 14] w) s w) (fun s w h => s237_p10_ok K B1 s w @h) (fun i => (tr_bif (fun s w h => s237_p2_ok K B1 s w @h) (tr_bif (fun s w h => s237_p1_ok K s w @h) tr_id))) (by kernel_rfl) (by kernel_rfl) @h
def s237_p12 (K : Value → World → Prop) (B1 : List Value → World → Prop) (t0 t1 t4 t5 t6 t13 t14 : Value) (w : World) : Prop :=
  boI .lss t14 t13 (fun t15 w =>
  ifb t15
  (s237_p11 K B1 t0 t1 t4 t5 t6 t13 t14 w)
  (s237_p1 K t4 t5 t6 w)) w
def s237_p12_den (K : Value → World → Prop) (M1 : (Nat → Value) → World → Prop) : (Nat → Value) → World → Prop := denL Tryz.prog [(cd (Tryz.f237.body.getD .skip) [1, 0, 1, 0, 0, 0]), (cd (Tryz.f237.body.getD .skip) [1, 0, 1, 0, 0, 1, 0])] (s237_p11_den K M1) (fun i => (bif Nat.beq i 0 then (s237_p1_den K) else (fun _ _ => False))) (s237_R K)
theorem s237_p12_ok (K : Value → World → Prop) (B1 : List Value → World → Prop) (s : Nat → Value) (w : World) (h : s237_p12 K B1 (s 0) (s 1) (s 4) (s 5) (s 6) (s 13) (s 14) w) : Tr (s237_p12_den K (fun s w => B1 [s 0, s 1, s 4, s 5, s 6, s 13, s 14] w) s w) :=
  tr_simple (P := Tryz.prog) (codes := [(cd (Tryz.f237.body.getD .skip) [1, 0, 1, 0, 0, 0]), (cd (Tryz.f237.body.getD .skip) [1, 0, 1, 0, 0, 1, 0])]) (N := (fun s w => s237_p11 K B1 (s 0) (s 1) (s 4) (s 5) (s 6) (s 13) (s 14) w)) (N' := (s237_p11_den K (fun s w => B1 [s 0, s 1, s 4, s 5, s 6, s 13, s 14] w))) (X := (fun i => (bif Nat.beq i 0 then (fun s w => s237_p1 K (s 4) (s 5) (s 6) w) else (fun _ _ => False)))) (X' := (fun i => (bif Nat.beq i 0 then (s237_p1_den K) else (fun _ _ => False)))) (R := s237_R K) (s := s) (w := w) (p := s237_p12 K B1 (s 0) (s 1) (s 4) (s 5) (s 6) (s 13) (s 14) w) (q := s237_p12_den K (fun s w => B1 [s 0, s 1, s 4, s 5, s 6, s 13, s 14] w) s w) (fun s w h => s237_p11_ok K B1 s w @h) (fun i => (tr_bif (fun s w h => s237_p1_ok K s w @h) tr_id)) (by kernel_rfl) (by kernel_rfl) @h
def s237_p13_F (K : Value → World → Prop) (B1 : List Value → World → Prop) (l : List Value) (w : World) : Prop :=
  match l with
  | [t0, t1, t4, t5, t6, t13, t14] => s237_p12 K B1 t0 t1 t4 t5 t6 t13 t14 w
  | _ => False
theorem s237_p13_Fe {K : Value → World → Prop} {B1 : List Value → World → Prop} {t0 t1 t4 t5 t6 t13 t14 : Value} {w : World} : s237_p13_F K B1 [t0, t1, t4, t5, t6, t13, t14] w = s237_p12 K B1 t0 t1 t4 t5 t6 t13 t14 w := by kernel_rfl
def s237_p13 (K : Value → World → Prop) (t0 t1 t4 t5 t6 t13 t14 : Value) (w : World) : Prop :=
  LoopL (s237_p13_F K) [t0, t1, t4, t5, t6, t13, t14] w
def s237_p13_den (K : Value → World → Prop) : (Nat → Value) → World → Prop := fun s w => LoopP (fun M1 s w => s237_p12_den K M1 s w) s w
theorem s237_p13_ok (K : Value → World → Prop) (s : Nat → Value) (w : World) (h : s237_p13 K (s 0) (s 1) (s 4) (s 5) (s 6) (s 13) (s 14) w) : Tr (s237_p13_den K s w) :=
  tr_loop (G := fun N' s w => s237_p12_den K N' s w) (F := s237_p13_F K) (sel := fun s => [s 0, s 1, s 4, s 5, s 6, s 13, s 14]) (s := s) (w := w) (p := s237_p13 K (s 0) (s 1) (s 4) (s 5) (s 6) (s 13) (s 14) w) (q := s237_p13_den K s w) (fun B s w h => s237_p12_ok K B s w @h) (by kernel_rfl) (by kernel_rfl) @h
def s237_p14 (K : Value → World → Prop) (t0 t1 : Value) (w : World) : Prop :=
  nck t0 (fun t10 w =>
  fd 14 t10 (fun t11 w =>
  ld1 t11 (fun t12 w =>
  lnS t12 (fun t13 w =>
  s237_p13 K t0 t1 (.int .i64 0) (.int .i64 0) (.int .i64 0) t13 (.int .i64 0) w) w) w) w) w
def s237_p14_den (K : Value → World → Prop) : (Nat → Value) → World → Prop := denL Tryz.prog [(cd (Tryz.f237.body.getD .skip) [0]), (cd (Tryz.f237.body.getD .skip) [1, 0, 0])] (s237_p13_den K) (fun i => (fun _ _ => False)) (s237_R K)
theorem s237_p14_ok (K : Value → World → Prop) (s : Nat → Value) (w : World) (h : s237_p14 K (s 0) (s 1) w) : Tr (s237_p14_den K s w) :=
  tr_simple (P := Tryz.prog) (codes := [(cd (Tryz.f237.body.getD .skip) [0]), (cd (Tryz.f237.body.getD .skip) [1, 0, 0])]) (N := (fun s w => s237_p13 K (s 0) (s 1) (s 4) (s 5) (s 6) (s 13) (s 14) w)) (N' := (s237_p13_den K)) (X := (fun i => (fun _ _ => False))) (X' := (fun i => (fun _ _ => False))) (R := s237_R K) (s := s) (w := w) (p := s237_p14 K (s 0) (s 1) w) (q := s237_p14_den K s w) (fun s w h => s237_p13_ok K s w @h) (fun i => tr_id) (by kernel_rfl) (by kernel_rfl) @h
/-- the call, from the text -/
theorem c237 (t0 t1 : Value) {K : Value → World → Prop} {w : World} (h : s237_p14 K t0 t1 w) : cl Tryz.prog 237 #[t0, t1] K w :=
  calls_of_tr (c := (Tryz.f237.body.getD .skip)) (fn := Tryz.f237) (q := s237_p14_den K (st0 #[t0, t1]) w) Tryz.func237 (by kernel_rfl) (by kernel_rfl) (Nat.le_of_ble_eq_true (by kernel_rfl)) (by kernel_rfl) (by kernel_rfl) (s237_p14_ok K (st0 #[t0, t1]) w @h)

/-! ### function 164 : (*e2e.standbym.Lines).Line -/
def s164_R (K : Value → World → Prop) (s : Nat → Value) (w : World) : Prop := retv Tryz.prog s Tryz.f164.results.toList (fun vs => K (pack vs) w) w
def s164_p1 (K : Value → World → Prop) (t0 t1 : Value) (w : World) : Prop :=
  bsq 3 [(.int .i64 0)] 0 [] (fun t5 w =>
  nck t0 (fun t7 w =>
  fd 14 t7 (fun t8 w =>
  ld1 t8 (fun t9 w =>
  ixs 1 t9 t1 (fun t11 w =>
  ld1 t11 (fun t12 w =>
  apq 3 [(.int .i64 0)] 8 t5 t12 (fun t13 w =>
  K t13 w) w) w) w) w) w) w) w
def s164_p1_den (K : Value → World → Prop) : (Nat → Value) → World → Prop := denL Tryz.prog [(cd (Tryz.f164.body.getD .skip) [0]), (cd (Tryz.f164.body.getD .skip) [1, 0]), (cd (Tryz.f164.body.getD .skip) [1, 1])] (fun _ _ => False) (fun i => (fun _ _ => False)) (s164_R K)
theorem s164_p1_ok (K : Value → World → Prop) (s : Nat → Value) (w : World) (h : s164_p1 K (s 0) (s 1) w) : Tr (s164_p1_den K s w) :=
  tr_simple (P := Tryz.prog) (codes := [(cd (Tryz.f164.body.getD .skip) [0]), (cd (Tryz.f164.body.getD .skip) [1, 0]), (cd (Tryz.f164.body.getD .skip) [1, 1])]) (N := (fun _ _ => False)) (N' := (fun _ _ => False)) (X := (fun i => (fun _ _ => False))) (X' := (fun i => (fun _ _ => False))) (R := s164_R K) (s := s) (w := w) (p := s164_p1 K (s 0) (s 1) w) (q := s164_p1_den K s w) tr_id (fun i => tr_id) (by kernel_rfl) (by kernel_rfl) @h
/-- the call, from the text -/
theorem c164 (t0 t1 : Value) {K : Value → World → Prop} {w : World} (h : s164_p1 K t0 t1 w) : cl Tryz.prog 164 #[t0, t1] K w :=
  calls_of_tr (c := (Tryz.f164.body.getD .skip)) (fn := Tryz.f164) (q := s164_p1_den K (st0 #[t0, t1]) w) Tryz.func164 (by kernel_rfl) (by kernel_rfl) (Nat.le_of_ble_eq_true (by kernel_rfl)) (by kernel_rfl) (by kernel_rfl) (s164_p1_ok K (st0 #[t0, t1]) w @h)

/-! ### function 233 : (*e2e.standbym.Lines).Join -/
def s233_R (K : Value → World → Prop) (s : Nat → Value) (w : World) : Prop := retv Tryz.prog s Tryz.f233.results.toList (fun vs => K (pack vs) w) w
def s233_p1 (K : Value → World → Prop) (t10 t11 t12 : Value) (w : World) : Prop :=
  K (.tuple #[t10, t11, t12]) w
def s233_p1_den (K : Value → World → Prop) : (Nat → Value) → World → Prop := denL Tryz.prog [(cd (Tryz.f233.body.getD .skip) [1, 1, 1, 1, 1, 1])] (fun _ _ => False) (fun i => (fun _ _ => False)) (s233_R K)
theorem s233_p1_ok (K : Value → World → Prop) (s : Nat → Value) (w : World) (h : s233_p1 K (s 10) (s 11) (s 12) w) : Tr (s233_p1_den K s w) :=
  tr_simple (P := Tryz.prog) (codes := [(cd (Tryz.f233.body.getD .skip) [1, 1, 1, 1, 1, 1])]) (N := (fun _ _ => False)) (N' := (fun _ _ => False)) (X := (fun i => (fun _ _ => False))) (X' := (fun i => (fun _ _ => False))) (R := s233_R K) (s := s) (w := w) (p := s233_p1 K (s 10) (s 11) (s 12) w) (q := s233_p1_den K s w) tr_id (fun i => tr_id) (by kernel_rfl) (by kernel_rfl) @h
def s233_p2_d (K : Value → World → Prop) (J : World → Prop) (t0 t2 t10 : Value) (w0 w : World) : Prop :=
  nck t0 (fun t56 _ =>
  fd 14 t56 (fun t57 _ =>
  Go.Sh.R.qw J (ld1 t57) (fun t58 =>
  ixs 1 t58 t2 (fun t60 _ =>
  Go.Sh.R.qw J (ld1 t60) (fun t61 =>
  lnS t61 (fun t62 _ =>
  J w ∧
  J w ∧
  s233_p1 K t10 t62 (.int .i64 0) w) w0)) w0)) w0) w0
def s233_p2 (K : Value → World → Prop) (t0 t2 t10 : Value) (w : World) : Prop := ∃ J : World → Prop, J (drw w) ∧ s233_p2_d K J t0 t2 t10 (drw w) (drw w)
def s233_p2_den (K : Value → World → Prop) : (Nat → Value) → World → Prop := denL Tryz.prog [(cd (Tryz.f233.body.getD .skip) [1, 1, 1, 1, 1, 0])] (s233_p1_den K) (fun i => (fun _ _ => False)) (s233_R K)
theorem s233_p2_ok (K : Value → World → Prop) (s : Nat → Value) (w : World) (h : s233_p2 K (s 0) (s 2) (s 10) w) : Tr (s233_p2_den K s w) :=
  Go.Sh.R.tr_drawR (P := Tryz.prog) (ops := (ro (cd (Tryz.f233.body.getD .skip) [1, 1, 1, 1, 1, 0]))) (ms := [0, 0, 2, 6, 14, 0, 62, 126, 254, 1, 1023, 2047]) (cs := [1, 2, 3, 4, 5, 6, 7, 8, 10, 11]) (N := (fun s w => s233_p1 K (s 10) (s 11) (s 12) w)) (N' := (s233_p1_den K)) (s := s) (w := w) (p := fun J => s233_p2_d K J (s 0) (s 2) (s 10) (drw w) (drw w)) (q := s233_p2_den K s w) (by kernel_rfl) (by kernel_rfl) (fun s w h => s233_p1_ok K s w @h) (by kernel_rfl) (by kernel_rfl) @h
def s233_p3_d (K : Value → World → Prop) (J : World → Prop) (t0 t2 t10 : Value) (w0 w : World) : Prop :=
  nck t0 (fun t39 _ =>
  fd 14 t39 (fun t40 _ =>
  Go.Sh.R.qw J (ld1 t40) (fun t41 =>
  nck t0 (fun t44 _ =>
  fd 14 t44 (fun t45 _ =>
  Go.Sh.R.qw J (ld1 t45) (fun t46 =>
  ixs 1 t46 t2 (fun t48 _ =>
  Go.Sh.R.qw J (ld1 t48) (fun t49 =>
  ixs 1 t41 t2 (fun t53 _ =>
  bsq 3 [(.int .i64 0)] 1 [(some (0, 1), t10)] (fun t51 w =>
  J w ∧
  apq 3 [(.int .i64 0)] 8 t49 t51 (fun t52 w =>
  J w ∧
  st1 t53 t52 (fun w =>
  s233_p2 K t0 t2 t10 w) w) w) w) w0)) w0)) w0) w0)) w0) w0
def s233_p3 (K : Value → World → Prop) (t0 t2 t10 : Value) (w : World) : Prop := ∃ J : World → Prop, J (drw w) ∧ s233_p3_d K J t0 t2 t10 (drw w) (drw w)
def s233_p3_den (K : Value → World → Prop) : (Nat → Value) → World → Prop := denL Tryz.prog [(cd (Tryz.f233.body.getD .skip) [1, 1, 1, 1, 0])] (s233_p2_den K) (fun i => (fun _ _ => False)) (s233_R K)
theorem s233_p3_ok (K : Value → World → Prop) (s : Nat → Value) (w : World) (h : s233_p3 K (s 0) (s 2) (s 10) w) : Tr (s233_p3_den K s w) :=
  Go.Sh.R.tr_drawR (P := Tryz.prog) (ops := (ro (cd (Tryz.f233.body.getD .skip) [1, 1, 1, 1, 0]))) (ms := [0, 1, 3, 7, 0, 0, 32, 96, 224, 0, 992, 2016, 0, 4096, 16352, 32767, 65535]) (cs := [0, 1, 2, 3, 4, 5, 6, 7, 8, 9, 10, 11, 12, 15]) (N := (fun s w => s233_p2 K (s 0) (s 2) (s 10) w)) (N' := (s233_p2_den K)) (s := s) (w := w) (p := fun J => s233_p3_d K J (s 0) (s 2) (s 10) (drw w) (drw w)) (q := s233_p3_den K s w) (by kernel_rfl) (by kernel_rfl) (fun s w h => s233_p2_ok K s w @h) (by kernel_rfl) (by kernel_rfl) @h
def s233_p4 (K : Value → World → Prop) (t0 t1 t2 t3 t4 t26 : Value) (w : World) : Prop :=
  ifb t26
  (K (.tuple #[(.int .i64 0), (.int .i64 0), (.int .i64 10)]) w)
  (cl Tryz.prog 241 #[t1, t2, t3, t4] (fun t32 w =>
  exq t32 0 (fun t33 w =>
  exq t32 1 (fun t34 w =>
  boI .neq t34 (.int .i64 0) (fun t36 w =>
  ifb t36
  (K (.tuple #[(.int .i64 0), (.int .i64 0), t34]) w)
  (s233_p3 K t0 t2 t33 w)) w) w) w) w)
def s233_p4_den (K : Value → World → Prop) : (Nat → Value) → World → Prop := denL Tryz.prog [(cd (Tryz.f233.body.getD .skip) [1, 0, 1]), (cd (Tryz.f233.body.getD .skip) [1, 1, 0]), (cd (Tryz.f233.body.getD .skip) [1, 1, 1, 0, 0]), (cd (Tryz.f233.body.getD .skip) [1, 1, 1, 0, 1])] (s233_p3_den K) (fun i => (fun _ _ => False)) (s233_R K)
theorem s233_p4_ok (K : Value → World → Prop) (s : Nat → Value) (w : World) (h : s233_p4 K (s 0) (s 1) (s 2) (s 3) (s 4) (s 26) w) : Tr (s233_p4_den K s w) :=
  tr_simple (P := Tryz.prog) (codes := [(cd (Tryz.f233.body.getD .skip) [1, 0, 1]), (cd (Tryz.f233.body.getD .skip) [1, 1, 0]), (cd (Tryz.f233.body.getD .skip) [1, 1, 1, 0, 0]), (cd (Tryz.f233.body.getD .skip) [1, 1, 1, 0, 1])]) (N := (fun s w => s233_p3 K (s 0) (s 2) (s 10) w)) (N' := (s233_p3_den K)) (X := (fun i => (fun _ _ => False))) (X' := (fun i => (fun _ _ => False))) (R := s233_R K) (s := s) (w := w) (p := s233_p4 K (s 0) (s 1) (s 2) (s 3) (s 4) (s 26) w) (q := s233_p4_den K s w) (fun s w h => s233_p3_ok K s w @h) (fun i => tr_id) (by kernel_rfl) (by kernel_rfl) @h
def s233_p5_d (K : Value → World → Prop) (t0 t1 t2 t3 t4 : Value) (w0 w : World) : Prop :=
  nck t0 (fun t14 _ =>
  fd 14 t14 (fun t15 _ =>
  ld1 t15 (fun t16 _ =>
  ixs 1 t16 t2 (fun t18 _ =>
  ld1 t18 (fun t19 _ =>
  lnS t19 (fun t20 _ =>
  nck t0 (fun t22 _ =>
  fd 0 t22 (fun t23 _ =>
  fd 11 t23 (fun t24 _ =>
  ld1 t24 (fun t25 _ =>
  boI .geq t20 t25 (fun t26 _ =>
  s233_p4 K t0 t1 t2 t3 t4 t26 w) w0) w0) w0) w0) w0) w0) w0) w0) w0) w0) w0
def s233_p5 (K : Value → World → Prop) (t0 t1 t2 t3 t4 : Value) (w : World) : Prop := s233_p5_d K t0 t1 t2 t3 t4 (drw w) (drw w)
def s233_p5_den (K : Value → World → Prop) : (Nat → Value) → World → Prop := denL Tryz.prog [(cd (Tryz.f233.body.getD .skip) [1, 0, 0])] (s233_p4_den K) (fun i => (fun _ _ => False)) (s233_R K)
theorem s233_p5_ok (K : Value → World → Prop) (s : Nat → Value) (w : World) (h : s233_p5 K (s 0) (s 1) (s 2) (s 3) (s 4) w) : Tr (s233_p5_den K s w) :=
  tr_draw (P := Tryz.prog) (ops := (ro (cd (Tryz.f233.body.getD .skip) [1, 0, 0]))) (ms := [0, 1, 3, 7, 0, 31, 63, 127, 0, 256, 768, 1792, 3840, 8191]) (cs := [0, 1, 2, 3, 4, 5, 6, 7, 8, 9, 10, 11, 12, 13]) (N := (fun s w => s233_p4 K (s 0) (s 1) (s 2) (s 3) (s 4) (s 26) w)) (N' := (s233_p4_den K)) (s := s) (w := w) (p := s233_p5 K (s 0) (s 1) (s 2) (s 3) (s 4) w) (q := s233_p5_den K s w) (by kernel_rfl) (by kernel_rfl) (fun s w h => s233_p4_ok K s w @h) (by kernel_rfl) (by kernel_rfl) @h
def s233_p6 (K : Value → World → Prop) (t0 t1 t2 t3 t4 : Value) (w : World) : Prop :=
  s233_p5 K t0 t1 t2 t3 t4 w
def s233_p6_den (K : Value → World → Prop) : (Nat → Value) → World → Prop := denL Tryz.prog [(cd (Tryz.f233.body.getD .skip) [0])] (s233_p5_den K) (fun i => (fun _ _ => False)) (s233_R K)
theorem s233_p6_ok (K : Value → World → Prop) (s : Nat → Value) (w : World) (h : s233_p6 K (s 0) (s 1) (s 2) (s 3) (s 4) w) : Tr (s233_p6_den K s w) :=
  tr_simple (P := Tryz.prog) (codes := [(cd (Tryz.f233.body.getD .skip) [0])]) (N := (fun s w => s233_p5 K (s 0) (s 1) (s 2) (s 3) (s 4) w)) (N' := (s233_p5_den K)) (X := (fun i => (fun _ _ => False))) (X' := (fun i => (fun _ _ => False))) (R := s233_R K) (s := s) (w := w) (p := s233_p6 K (s 0) (s 1) (s 2) (s 3) (s 4) w) (q := s233_p6_den K s w) (fun s w h => s233_p5_ok K s w @h) (fun i => tr_id) (by kernel_rfl) (by kernel_rfl) @h
/-- the call, from the text -/
theorem c233 (t0 t1 t2 t3 t4 : Value) {K : Value → World → Prop} {w : World} (h : s233_p6 K t0 t1 t2 t3 t4 w) : cl Tryz.prog 233 #[t0, t1, t2, t3, t4] K w :=
  calls_of_tr (c := (Tryz.f233.body.getD .skip)) (fn := Tryz.f233) (q := s233_p6_den K (st0 #[t0, t1, t2, t3, t4]) w) Tryz.func233 (by kernel_rfl) (by kernel_rfl) (Nat.le_of_ble_eq_true (by kernel_rfl)) (by kernel_rfl) (by kernel_rfl) (s233_p6_ok K (st0 #[t0, t1, t2, t3, t4]) w @h)

/-! ### function 235 : (*e2e.standbym.Lines).remove -/
def s235_R (K : Value → World → Prop) (s : Nat → Value) (w : World) : Prop := retv Tryz.prog s Tryz.f235.results.toList (fun vs => K (pack vs) w) w
def s235_p1 (K : Value → World → Prop) (B1 : List Value → World → Prop) (t0 t1 t12 t13 t14 : Value) (w : World) : Prop :=
  boI .add t14 (.int .i64 1) (fun t41 w =>
  B1 [t0, t1, t12, t13, t41] w) w
def s235_p1_den (K : Value → World → Prop) (M1 : (Nat → Value) → World → Prop) : (Nat → Value) → World → Prop := denL Tryz.prog [(cd (Tryz.f235.body.getD .skip) [1, 0, 0, 1, 1, 1])] M1 (fun i => (bif Nat.beq i 0 then (s235_R K) else (fun _ _ => False))) (s235_R K)
theorem s235_p1_ok (K : Value → World → Prop) (B1 : List Value → World → Prop) (s : Nat → Value) (w : World) (h : s235_p1 K B1 (s 0) (s 1) (s 12) (s 13) (s 14) w) : Tr (s235_p1_den K (fun s w => B1 [s 0, s 1, s 12, s 13, s 14] w) s w) :=
  tr_simple (P := Tryz.prog) (codes := [(cd (Tryz.f235.body.getD .skip) [1, 0, 0, 1, 1, 1])]) (N := (fun s w => B1 [s 0, s 1, s 12, s 13, s 14] w)) (N' := (fun s w => B1 [s 0, s 1, s 12, s 13, s 14] w)) (X := (fun i => (bif Nat.beq i 0 then (s235_R K) else (fun _ _ => False)))) (X' := (fun i => (bif Nat.beq i 0 then (s235_R K) else (fun _ _ => False)))) (R := s235_R K) (s := s) (w := w) (p := s235_p1 K B1 (s 0) (s 1) (s 12) (s 13) (s 14) w) (q := s235_p1_den K (fun s w => B1 [s 0, s 1, s 12, s 13, s 14] w) s w) tr_id (fun i => (tr_bif tr_id tr_id)) (by kernel_rfl) (by kernel_rfl) @h
def s235_p2 (K : Value → World → Prop) (B1 : List Value → World → Prop) (t0 t1 t4 t6 t12 t13 t14 : Value) (w : World) : Prop :=
  nck t0 (fun t35 w =>
  fd 14 t35 (fun t36 w =>
  ld1 t36 (fun t37 w =>
  ixs 1 t37 t4 (fun t40 w =>
  st1 t40 t6 (fun w =>
  s235_p1 K B1 t0 t1 t12 t13 t14 w) w) w) w) w) w
def s235_p2_den (K : Value → World → Prop) (M1 : (Nat → Value) → World → Prop) : (Nat → Value) → World → Prop := denL Tryz.prog [(cd (Tryz.f235.body.getD .skip) [1, 0, 0, 1, 1, 0, 0, 1, 1, 1])] (s235_p1_den K M1) (fun i => (bif Nat.beq i 1 then (s235_p1_den K M1) else (bif Nat.beq i 0 then (s235_R K) else (fun _ _ => False)))) (s235_R K)
theorem s235_p2_ok (K : Value → World → Prop) (B1 : List Value → World → Prop) (s : Nat → Value) (w : World) (h : s235_p2 K B1 (s 0) (s 1) (s 4) (s 6) (s 12) (s 13) (s 14) w) : Tr (s235_p2_den K (fun s w => B1 [s 0, s 1, s 12, s 13, s 14] w) s w) :=
  tr_simple (P := Tryz.prog) (codes := [(cd (Tryz.f235.body.getD .skip) [1, 0, 0, 1, 1, 0, 0, 1, 1, 1])]) (N := (fun s w => s235_p1 K B1 (s 0) (s 1) (s 12) (s 13) (s 14) w)) (N' := (s235_p1_den K (fun s w => B1 [s 0, s 1, s 12, s 13, s 14] w))) (X := (fun i => (bif Nat.beq i 1 then (fun s w => s235_p1 K B1 (s 0) (s 1) (s 12) (s 13) (s 14) w) else (bif Nat.beq i 0 then (s235_R K) else (fun _ _ => False))))) (X' := (fun i => (bif Nat.beq i 1 then (s235_p1_den K (fun s w => B1 [s 0, s 1, s 12, s 13, s 14] w)) else (bif Nat.beq i 0 then (s235_R K) else (fun _ _ => False))))) (R := s235_R K) (s := s) (w := w) (p := s235_p2 K B1 (s 0) (s 1) (s 4) (s 6) (s 12) (s 13) (s 14) w) (q := s235_p2_den K (fun s w => B1 [s 0, s 1, s 12, s 13, s 14] w) s w) (fun s w h => s235_p1_ok K B1 s w @h) (fun i => (tr_bif (fun s w h => s235_p1_ok K B1 s w @h) (tr_bif tr_id tr_id))) (by kernel_rfl) (by kernel_rfl) @h
def s235_p3 (K : Value → World → Prop) (B1 : List Value → World → Prop) (B2 : List Value → World → Prop) (t0 t1 t4 t6 t12 t13 t14 t20 t21 t22 : Value) (w : World) : Prop :=
  boI .add t22 (.int .i64 1) (fun t33 w =>
  B2 [t0, t1, t4, t6, t12, t13, t14, t20, t21, t33] w) w
def s235_p3_den (K : Value → World → Prop) (M1 : (Nat → Value) → World → Prop) (M2 : (Nat → Value) → World → Prop) : (Nat → Value) → World → Prop := denL Tryz.prog [(cd (Tryz.f235.body.getD .skip) [1, 0, 0, 1, 1, 0, 0, 1, 1, 0, 1, 0, 0, 1, 1, 1])] M2 (fun i => (bif Nat.beq i 2 then (s235_p2_den K M1) else (bif Nat.beq i 1 then (s235_p1_den K M1) else (bif Nat.beq i 0 then (s235_R K) else (fun _ _ => False))))) (s235_R K)
theorem s235_p3_ok (K : Value → World → Prop) (B1 : List Value → World → Prop) (B2 : List Value → World → Prop) (s : Nat → Value) (w : World) (h : s235_p3 K B1 B2 (s 0) (s 1) (s 4) (s 6) (s 12) (s 13) (s 14) (s 20) (s 21) (s 22) w) : Tr (s235_p3_den K (fun s w => B1 [s 0, s 1, s 12, s 13, s 14] w) (fun s w => B2 [s 0, s 1, s 4, s 6, s 12, s 13, s 14, s 20, s 21, s 22] w) s w) :=
  tr_simple (P := Tryz.prog) (codes := [(cd (Tryz.f235.body.getD .skip) [1, 0, 0, 1, 1, 0, 0, 1, 1, 0, 1, 0, 0, 1, 1, 1])]) (N := (fun s w => B2 [s 0, s 1, s 4, s 6, s 12, s 13, s 14, s 20, s 21, s 22] w)) (N' := (fun s w => B2 [s 0, s 1, s 4, s 6, s 12, s 13, s 14, s 20, s 21, s 22] w)) (X := (fun i => (bif Nat.beq i 2 then (fun s w => s235_p2 K B1 (s 0) (s 1) (s 4) (s 6) (s 12) (s 13) (s 14) w) else (bif Nat.beq i 1 then (fun s w => s235_p1 K B1 (s 0) (s 1) (s 12) (s 13) (s 14) w) else (bif Nat.beq i 0 then (s235_R K) else (fun _ _ => False)))))) (X' := (fun i => (bif Nat.beq i 2 then (s235_p2_den K (fun s w => B1 [s 0, s 1, s 12, s 13, s 14] w)) else (bif Nat.beq i 1 then (s235_p1_den K (fun s w => B1 [s 0, s 1, s 12, s 13, s 14] w)) else (bif Nat.beq i 0 then (s235_R K) else (fun _ _ => False)))))) (R := s235_R K) (s := s) (w := w) (p := s235_p3 K B1 B2 (s 0) (s 1) (s 4) (s 6) (s 12) (s 13) (s 14) (s 20) (s 21) (s 22) w) (q := s235_p3_den K (fun s w => B1 [s 0, s 1, s 12, s 13, s 14] w) (fun s w => B2 [s 0, s 1, s 4, s 6, s 12, s 13, s 14, s 20, s 21, s 22] w) s w) tr_id (fun i => (tr_bif (fun s w h => s235_p2_ok K B1 s w @h) (tr_bif (fun s w h => s235_p1_ok K B1 s w @h) (tr_bif tr_id tr_id)))) (by kernel_rfl) (by kernel_rfl) @h
def s235_p4 (K : Value → World → Prop) (B1 : List Value → World → Prop) (B2 : List Value → World → Prop) (t0 t1 t4 t6 t12 t13 t14 t20 t21 t22 : Value) (w : World) : Prop :=
  boI .lss t22 t21 (fun t23 w =>
  ifb t23
  (ixs 1 t20 t22 (fun t24 w =>
  ld1 t24 (fun t25 w =>
  boI .neq t25 t1 (fun t28 w =>
  ifb t28
  (bsq 3 [(.int .i64 0)] 1 [(some (0, 1), t25)] (fun t31 w =>
  apq 3 [(.int .i64 0)] 8 t6 t31 (fun t32 w =>
  s235_p3 K B1 B2 t0 t1 t4 t32 t12 t13 t14 t20 t21 t22 w) w) w)
  (s235_p3 K B1 B2 t0 t1 t4 t6 t12 t13 t14 t20 t21 t22 w)) w) w) w)
  (s235_p2 K B1 t0 t1 t4 t6 t12 t13 t14 w)) w
def s235_p4_den (K : Value → World → Prop) (M1 : (Nat → Value) → World → Prop) (M2 : (Nat → Value) → World → Prop) : (Nat → Value) → World → Prop := denL Tryz.prog [(cd (Tryz.f235.body.getD .skip) [1, 0, 0, 1, 1, 0, 0, 1, 1, 0, 1, 0, 0, 0]), (cd (Tryz.f235.body.getD .skip) [1, 0, 0, 1, 1, 0, 0, 1, 1, 0, 1, 0, 0, 1, 0]), (cd (Tryz.f235.body.getD .skip) [1, 0, 0, 1, 1, 0, 0, 1, 1, 0, 1, 0, 0, 1, 1, 0])] (s235_p3_den K M1 M2) (fun i => (bif Nat.beq i 2 then (s235_p2_den K M1) else (bif Nat.beq i 1 then (s235_p1_den K M1) else (bif Nat.beq i 0 then (s235_R K) else (fun _ _ => False))))) (s235_R K)
theorem s235_p4_ok (K : Value → World → Prop) (B1 : List Value → World → Prop) (B2 : List Value → World → Prop) (s : Nat → Value) (w : World) (h : s235_p4 K B1 B2 (s 0) (s 1) (s 4) (s 6) (s 12) (s 13) (s 14) (s 20) (s 21) (s 22) w) : Tr (s235_p4_den K (fun s w => B1 [s 0, s 1, s 12, s 13, s 14] w) (fun s w => B2 [s 0, s 1, s 4, s 6, s 12, s 13, s 14, s 20, s 21, s 22] w) s w) :=
  tr_simple (P := Tryz.prog) (codes := [(cd (Tryz.f235.body.getD .skip) [1, 0, 0, 1, 1, 0, 0, 1, 1, 0, 1, 0, 0, 0]), (cd (Tryz.f235.body.getD .skip) [1, 0, 0, 1, 1, 0, 0, 1, 1, 0, 1, 0, 0, 1, 0]), (cd (Tryz.f235.body.getD .skip) [1, 0, 0, 1, 1, 0, 0, 1, 1, 0, 1, 0, 0, 1, 1, 0])]) (N := (fun s w => s235_p3 K B1 B2 (s 0) (s 1) (s 4) (s 6) (s 12) (s 13) (s 14) (s 20) (s 21) (s 22) w)) (N' := (s235_p3_den K (fun s w => B1 [s 0, s 1, s 12, s 13, s 14] w) (fun s w => B2 [s 0, s 1, s 4, s 6, s 12, s 13, s 14, s 20, s 21, s 22] w))) (X := (fun i => (bif Nat.beq i 2 then (fun s w => s235_p2 K B1 (s 0) (s 1) (s 4) (s 6) (s 12) (s 13) (s 14) w) else (bif Nat.beq i 1 then (fun s w => s235_p1 K B1 (s 0) (s 1) (s 12) (s 13) (s 14) w) else (bif Nat.beq i 0 then (s235_R K) else (fun _ _ => False)))))) (X' := (fun i => (bif Nat.beq i 2 then (s235_p2_den K (fun s w => B1 [s 0, s 1, s 12, s 13, s 14] w)) else (bif Nat.beq i 1 then (s235_p1_den K (fun s w => B1 [s 0, s 1, s 12, s 13, s 14] w)) else (bif Nat.beq i 0 then (s235_R K) else (fun _ _ => False)))))) (R := s235_R K) (s := s) (w := w) (p := s235_p4 K B1 B2 (s 0) (s 1) (s 4) (s 6) (s 12) (s 13) (s 14) (s 20) (s 21) (s 22) w) (q := s235_p4_den K (fun s w => B1 [s 0, s 1, s 12, s 13, s 14] w) (fun s w => B2 [s 0, s 1, s 4, s 6, s 12, s 13, s 14, s 20, s 21, s 22] w) s w) (fun s w h => s235_p3_ok K B1 B2 s w @h) (fun i => (tr_bif (fun s w h => s235_p2_ok K B1 s w @h) (tr_bif (fun s w h => s235_p1_ok K B1 s w @h) (tr_bif tr_id tr_id)))) (by kernel_rfl) (by kernel_rfl) @h
def s235_p5_F (K : Value → World → Prop) (B1 : List Value → World → Prop) (B2 : List Value → World → Prop) (l : List Value) (w : World) : Prop :=
  match l with
  | [t0, t1, t4, t6, t12, t13, t14, t20, t21, t22] => s235_p4 K B1 B2 t0 t1 t4 t6 t12 t13 t14 t20 t21 t22 w
  | _ => False
theorem s235_p5_Fe {K : Value → World → Prop} {B1 : List Value → World → Prop} {B2 : List Value → World → Prop} {t0 t1 t4 t6 t12 t13 t14 t20 t21 t22 : Value} {w : World} : s235_p5_F K B1 B2 [t0, t1, t4, t6, t12, t13, t14, t20, t21, t22] w = s235_p4 K B1 B2 t0 t1 t4 t6 t12 t13 t14 t20 t21 t22 w := by kernel_rfl
def s235_p5 (K : Value → World → Prop) (B1 : List Value → World → Prop) (t0 t1 t4 t6 t12 t13 t14 t20 t21 t22 : Value) (w : World) : Prop :=
  LoopL (s235_p5_F K B1) [t0, t1, t4, t6, t12, t13, t14, t20, t21, t22] w
def s235_p5_den (K : Value → World → Prop) (M1 : (Nat → Value) → World → Prop) : (Nat → Value) → World → Prop := fun s w => LoopP (fun M2 s w => s235_p4_den K M1 M2 s w) s w
theorem s235_p5_ok (K : Value → World → Prop) (B1 : List Value → World → Prop) (s : Nat → Value) (w : World) (h : s235_p5 K B1 (s 0) (s 1) (s 4) (s 6) (s 12) (s 13) (s 14) (s 20) (s 21) (s 22) w) : Tr (s235_p5_den K (fun s w => B1 [s 0, s 1, s 12, s 13, s 14] w) s w) :=
  tr_loop (G := fun N' s w => s235_p4_den K (fun s w => B1 [s 0, s 1, s 12, s 13, s 14] w) N' s w) (F := s235_p5_F K B1) (sel := fun s => [s 0, s 1, s 4, s 6, s 12, s 13, s 14, s 20, s 21, s 22]) (s := s) (w := w) (p := s235_p5 K B1 (s 0) (s 1) (s 4) (s 6) (s 12) (s 13) (s 14) (s 20) (s 21) (s 22) w) (q := s235_p5_den K (fun s w => B1 [s 0, s 1, s 12, s 13, s 14] w) s w) (fun B s w h => s235_p4_ok K B1 B s w @h) (by kernel_rfl) (by kernel_rfl) @h
def s235_p6 (K : Value → World → Prop) (B1 : List Value → World → Prop) (t0 t1 t12 t13 t14 : Value) (w : World) : Prop :=
  ixs 1 t12 t14 (fun t17 w =>
  ld1 t17 (fun t18 w =>
  bsq 3 [(.int .i64 0)] 0 [] (fun t19 w =>
  lnS t18 (fun t21 w =>
  s235_p5 K B1 t0 t1 t14 t19 t12 t13 t14 t18 t21 (.int .i64 0) w) w) w) w) w
def s235_p6_den (K : Value → World → Prop) (M1 : (Nat → Value) → World → Prop) : (Nat → Value) → World → Prop := denL Tryz.prog [(cd (Tryz.f235.body.getD .skip) [1, 0, 0, 1, 1, 0, 0, 0]), (cd (Tryz.f235.body.getD .skip) [1, 0, 0, 1, 1, 0, 0, 1, 0]), (cd (Tryz.f235.body.getD .skip) [1, 0, 0, 1, 1, 0, 0, 1, 1, 0, 0])] (s235_p5_den K M1) (fun i => (bif Nat.beq i 1 then (s235_p1_den K M1) else (bif Nat.beq i 0 then (s235_R K) else (fun _ _ => False)))) (s235_R K)
theorem s235_p6_ok (K : Value → World → Prop) (B1 : List Value → World → Prop) (s : Nat → Value) (w : World) (h : s235_p6 K B1 (s 0) (s 1) (s 12) (s 13) (s 14) w) : Tr (s235_p6_den K (fun s w => B1 [s 0, s 1, s 12, s 13, s 14] w) s w) :=
  tr_simple (P := Tryz.prog) (codes := [(cd (Tryz.f235.body.getD .skip) [1, 0, 0, 1, 1, 0, 0, 0]), (cd (Tryz.f235.body.getD .skip) [1, 0, 0, 1, 1, 0, 0, 1, 0]), (cd (Tryz.f235.body.getD .skip) [1, 0, 0, 1, 1, 0, 0, 1, 1, 0, 0])]) (N := (fun s w => s235_p5 K B1 (s 0) (s 1) (s 4) (s 6) (s 12) (s 13) (s 14) (s 20) (s 21) (s 22) w)) (N' := (s235_p5_den K (fun s w => B1 [s 0, s 1, s 12, s 13, s 14] w))) (X := (fun i => (bif Nat.beq i 1 then (fun s w => s235_p1 K B1 (s 0) (s 1) (s 12) (s 13) (s 14) w) else (bif Nat.beq i 0 then (s235_R K) else (fun _ _ => False))))) (X' := (fun i => (bif Nat.beq i 1 then (s235_p1_den K (fun s w => B1 [s 0, s 1, s 12, s 13, s 14] w)) else (bif Nat.beq i 0 then (s235_R K) else (fun _ _ => False))))) (R := s235_R K) (s := s) (w := w) (p := s235_p6 K B1 (s 0) (s 1) (s 12) (s 13) (s 14) w) (q := s235_p6_den K (fun s w => B1 [s 0, s 1, s 12, s 13, s 14] w) s w) (fun s w h => s235_p5_ok K B1 s w @h) (fun i => (tr_bif (fun s w h => s235_p1_ok K B1 s w @h) (tr_bif tr_id tr_id))) (by kernel_rfl) (by kernel_rfl) @h
def s235_p7 (K : Value → World → Prop) (B1 : List Value → World → Prop) (t0 t1 t12 t13 t14 : Value) (w : World) : Prop :=
  boI .lss t14 t13 (fun t15 w =>
  ifb t15
  (s235_p6 K B1 t0 t1 t12 t13 t14 w)
  (K (.tuple #[]) w)) w
def s235_p7_den (K : Value → World → Prop) (M1 : (Nat → Value) → World → Prop) : (Nat → Value) → World → Prop := denL Tryz.prog [(cd (Tryz.f235.body.getD .skip) [1, 0, 0, 0]), (cd (Tryz.f235.body.getD .skip) [1, 0, 0, 1, 0])] (s235_p6_den K M1) (fun i => (bif Nat.beq i 0 then (s235_R K) else (fun _ _ => False))) (s235_R K)
theorem s235_p7_ok (K : Value → World → Prop) (B1 : List Value → World → Prop) (s : Nat → Value) (w : World) (h : s235_p7 K B1 (s 0) (s 1) (s 12) (s 13) (s 14) w) : Tr (s235_p7_den K (fun s w => B1 [s 0, s 1, s 12, s 13, s 14] w) s w) :=
  tr_simple (P := Tryz.prog) (codes := [(cd (Tryz.f235.body.getD .skip) [1, 0, 0, 0]), (cd (Tryz.f235.body.getD .skip) [1, 0, 0, 1, 0])]) (N := (fun s w => s235_p6 K B1 (s 0) (s 1) (s 12) (s 13) (s 14) w)) (N' := (s235_p6_den K (fun s w => B1 [s 0, s 1, s 12, s 13, s 14] w))) (X := (fun i => (bif Nat.beq i 0 then (s235_R K) else (fun _ _ => False)))) (X' := (fun i => (bif Nat.beq i 0 then (s235_R K) else (fun _ _ => False)))) (R := s235_R K) (s := s) (w := w) (p := s235_p7 K B1 (s 0) (s 1) (s 12) (s 13) (s 14) w) (q := s235_p7_den K (fun s w => B1 [s 0, s 1, s 12, s 13, s 14] w) s w) (fun s w h => s235_p6_ok K B1 s w @h) (fun i => (tr_bif tr_id tr_id)) (by kernel_rfl) (by kernel_rfl) @h
def s235_p8_F (K : Value → World → Prop) (B1 : List Value → World → Prop) (l : List Value) (w : World) : Prop :=
  match l with
  | [t0, t1, t12, t13, t14] => s235_p7 K B1 t0 t1 t12 t13 t14 w
  | _ => False
theorem s235_p8_Fe {K : Value → World → Prop} {B1 : List Value → World → Prop} {t0 t1 t12 t13 t14 : Value} {w : World} : s235_p8_F K B1 [t0, t1, t12, t13, t14] w = s235_p7 K B1 t0 t1 t12 t13 t14 w := by kernel_rfl
def s235_p8 (K : Value → World → Prop) (t0 t1 t12 t13 t14 : Value) (w : World) : Prop :=
  LoopL (s235_p8_F K) [t0, t1, t12, t13, t14] w
def s235_p8_den (K : Value → World → Prop) : (Nat → Value) → World → Prop := fun s w => LoopP (fun M1 s w => s235_p7_den K M1 s w) s w
theorem s235_p8_ok (K : Value → World → Prop) (s : Nat → Value) (w : World) (h : s235_p8 K (s 0) (s 1) (s 12) (s 13) (s 14) w) : Tr (s235_p8_den K s w) :=
  tr_loop (G := fun N' s w => s235_p7_den K N' s w) (F := s235_p8_F K) (sel := fun s => [s 0, s 1, s 12, s 13, s 14]) (s := s) (w := w) (p := s235_p8 K (s 0) (s 1) (s 12) (s 13) (s 14) w) (q := s235_p8_den K s w) (fun B s w h => s235_p7_ok K B s w @h) (by kernel_rfl) (by kernel_rfl) @h
def s235_p9 (K : Value → World → Prop) (t0 t1 : Value) (w : World) : Prop :=
  nck t0 (fun t10 w =>
  fd 14 t10 (fun t11 w =>
  ld1 t11 (fun t12 w =>
  lnS t12 (fun t13 w =>
  s235_p8 K t0 t1 t12 t13 (.int .i64 0) w) w) w) w) w
def s235_p9_den (K : Value → World → Prop) : (Nat → Value) → World → Prop := denL Tryz.prog [(cd (Tryz.f235.body.getD .skip) [0])] (s235_p8_den K) (fun i => (fun _ _ => False)) (s235_R K)
theorem s235_p9_ok (K : Value → World → Prop) (s : Nat → Value) (w : World) (h : s235_p9 K (s 0) (s 1) w) : Tr (s235_p9_den K s w) :=
  tr_simple (P := Tryz.prog) (codes := [(cd (Tryz.f235.body.getD .skip) [0])]) (N := (fun s w => s235_p8 K (s 0) (s 1) (s 12) (s 13) (s 14) w)) (N' := (s235_p8_den K)) (X := (fun i => (fun _ _ => False))) (X' := (fun i => (fun _ _ => False))) (R := s235_R K) (s := s) (w := w) (p := s235_p9 K (s 0) (s 1) w) (q := s235_p9_den K s w) (fun s w h => s235_p8_ok K s w @h) (fun i => tr_id) (by kernel_rfl) (by kernel_rfl) @h
/-- the call, from the text -/
theorem c235 (t0 t1 : Value) {K : Value → World → Prop} {w : World} (h : s235_p9 K t0 t1 w) : cl Tryz.prog 235 #[t0, t1] K w :=
  calls_of_tr (c := (Tryz.f235.body.getD .skip)) (fn := Tryz.f235) (q := s235_p9_den K (st0 #[t0, t1]) w) Tryz.func235 (by kernel_rfl) (by kernel_rfl) (Nat.le_of_ble_eq_true (by kernel_rfl)) (by kernel_rfl) (by kernel_rfl) (s235_p9_ok K (st0 #[t0, t1]) w @h)

/-! ### function 213 : (*e2e.standbym.Lines).Leave -/
def s213_R (K : Value → World → Prop) (s : Nat → Value) (w : World) : Prop := retv Tryz.prog s Tryz.f213.results.toList (fun vs => K (pack vs) w) w
def s213_p1 (K : Value → World → Prop) (t7 : Value) (w : World) : Prop :=
  K t7 w
def s213_p1_den (K : Value → World → Prop) : (Nat → Value) → World → Prop := denL Tryz.prog [(cd (Tryz.f213.body.getD .skip) [1, 1, 1, 0]), (cd (Tryz.f213.body.getD .skip) [1, 1, 1, 1])] (fun _ _ => False) (fun i => (fun _ _ => False)) (s213_R K)
theorem s213_p1_ok (K : Value → World → Prop) (s : Nat → Value) (w : World) (h : s213_p1 K (s 7) w) : Tr (s213_p1_den K s w) :=
  tr_simple (P := Tryz.prog) (codes := [(cd (Tryz.f213.body.getD .skip) [1, 1, 1, 0]), (cd (Tryz.f213.body.getD .skip) [1, 1, 1, 1])]) (N := (fun _ _ => False)) (N' := (fun _ _ => False)) (X := (fun i => (fun _ _ => False))) (X' := (fun i => (fun _ _ => False))) (R := s213_R K) (s := s) (w := w) (p := s213_p1 K (s 7) w) (q := s213_p1_den K s w) tr_id (fun i => tr_id) (by kernel_rfl) (by kernel_rfl) @h
def s213_p2 (K : Value → World → Prop) (t0 t1 t2 : Value) (w : World) : Prop :=
  cl Tryz.prog 234 #[t1, t2] (fun t10 w =>
  boI .eql t10 (.int .i64 0) (fun t12 w =>
  ifb t12
  (cl Tryz.prog 235 #[t0, t2] (fun t15 w =>
  s213_p1 K t10 w) w)
  (s213_p1 K t10 w)) w) w
def s213_p2_den (K : Value → World → Prop) : (Nat → Value) → World → Prop := denL Tryz.prog [(cd (Tryz.f213.body.getD .skip) [0]), (cd (Tryz.f213.body.getD .skip) [1, 0]), (cd (Tryz.f213.body.getD .skip) [1, 1, 0, 0]), (cd (Tryz.f213.body.getD .skip) [1, 1, 0, 1])] (s213_p1_den K) (fun i => (fun _ _ => False)) (s213_R K)
theorem s213_p2_ok (K : Value → World → Prop) (s : Nat → Value) (w : World) (h : s213_p2 K (s 0) (s 1) (s 2) w) : Tr (s213_p2_den K s w) :=
  tr_simple (P := Tryz.prog) (codes := [(cd (Tryz.f213.body.getD .skip) [0]), (cd (Tryz.f213.body.getD .skip) [1, 0]), (cd (Tryz.f213.body.getD .skip) [1, 1, 0, 0]), (cd (Tryz.f213.body.getD .skip) [1, 1, 0, 1])]) (N := (fun s w => s213_p1 K (s 7) w)) (N' := (s213_p1_den K)) (X := (fun i => (fun _ _ => False))) (X' := (fun i => (fun _ _ => False))) (R := s213_R K) (s := s) (w := w) (p := s213_p2 K (s 0) (s 1) (s 2) w) (q := s213_p2_den K s w) (fun s w h => s213_p1_ok K s w @h) (fun i => tr_id) (by kernel_rfl) (by kernel_rfl) @h
/-- the call, from the text -/
theorem c213 (t0 t1 t2 : Value) {K : Value → World → Prop} {w : World} (h : s213_p2 K t0 t1 t2 w) : cl Tryz.prog 213 #[t0, t1, t2] K w :=
  calls_of_tr (c := (Tryz.f213.body.getD .skip)) (fn := Tryz.f213) (q := s213_p2_den K (st0 #[t0, t1, t2]) w) Tryz.func213 (by kernel_rfl) (by kernel_rfl) (Nat.le_of_ble_eq_true (by kernel_rfl)) (by kernel_rfl) (by kernel_rfl) (s213_p2_ok K (st0 #[t0, t1, t2]) w @h)

/-! ### function 236 : (*e2e.standbym.Lines).Serve -/
def s236_R (K : Value → World → Prop) (s : Nat → Value) (w : World) : Prop := retv Tryz.prog s Tryz.f236.results.toList (fun vs => K (pack vs) w) w
def s236_p1 (K : Value → World → Prop) (t7 : Value) (w : World) : Prop :=
  K t7 w
def s236_p1_den (K : Value → World → Prop) : (Nat → Value) → World → Prop := denL Tryz.prog [(cd (Tryz.f236.body.getD .skip) [1, 1, 1, 0]), (cd (Tryz.f236.body.getD .skip) [1, 1, 1, 1])] (fun _ _ => False) (fun i => (fun _ _ => False)) (s236_R K)
theorem s236_p1_ok (K : Value → World → Prop) (s : Nat → Value) (w : World) (h : s236_p1 K (s 7) w) : Tr (s236_p1_den K s w) :=
  tr_simple (P := Tryz.prog) (codes := [(cd (Tryz.f236.body.getD .skip) [1, 1, 1, 0]), (cd (Tryz.f236.body.getD .skip) [1, 1, 1, 1])]) (N := (fun _ _ => False)) (N' := (fun _ _ => False)) (X := (fun i => (fun _ _ => False))) (X' := (fun i => (fun _ _ => False))) (R := s236_R K) (s := s) (w := w) (p := s236_p1 K (s 7) w) (q := s236_p1_den K s w) tr_id (fun i => tr_id) (by kernel_rfl) (by kernel_rfl) @h
def s236_p2 (K : Value → World → Prop) (B1 : List Value → World → Prop) (t0 t1 t2 t7 t19 t20 : Value) (w : World) : Prop :=
  boI .add t20 (.int .i64 1) (fun t66 w =>
  B1 [t0, t1, t2, t7, t19, t66] w) w
def s236_p2_den (K : Value → World → Prop) (M1 : (Nat → Value) → World → Prop) : (Nat → Value) → World → Prop := denL Tryz.prog [(cd (Tryz.f236.body.getD .skip) [1, 1, 0, 1, 0, 0, 1, 1, 1])] M1 (fun i => (bif Nat.beq i 0 then (s236_p1_den K) else (fun _ _ => False))) (s236_R K)
theorem s236_p2_ok (K : Value → World → Prop) (B1 : List Value → World → Prop) (s : Nat → Value) (w : World) (h : s236_p2 K B1 (s 0) (s 1) (s 2) (s 7) (s 19) (s 20) w) : Tr (s236_p2_den K (fun s w => B1 [s 0, s 1, s 2, s 7, s 19, s 20] w) s w) :=
  tr_simple (P := Tryz.prog) (codes := [(cd (Tryz.f236.body.getD .skip) [1, 1, 0, 1, 0, 0, 1, 1, 1])]) (N := (fun s w => B1 [s 0, s 1, s 2, s 7, s 19, s 20] w)) (N' := (fun s w => B1 [s 0, s 1, s 2, s 7, s 19, s 20] w)) (X := (fun i => (bif Nat.beq i 0 then (fun s w => s236_p1 K (s 7) w) else (fun _ _ => False)))) (X' := (fun i => (bif Nat.beq i 0 then (s236_p1_den K) else (fun _ _ => False)))) (R := s236_R K) (s := s) (w := w) (p := s236_p2 K B1 (s 0) (s 1) (s 2) (s 7) (s 19) (s 20) w) (q := s236_p2_den K (fun s w => B1 [s 0, s 1, s 2, s 7, s 19, s 20] w) s w) tr_id (fun i => (tr_bif (fun s w h => s236_p1_ok K s w @h) tr_id)) (by kernel_rfl) (by kernel_rfl) @h
def s236_p3 (K : Value → World → Prop) (B1 : List Value → World → Prop) (B2 : List Value → World → Prop) (B3 : List Value → World → Prop) (t0 t1 t2 t7 t8 t9 t19 t20 t30 t31 t32 : Value) (w : World) : Prop :=
  boI .lss t32 t31 (fun t33 w =>
  ifb t33
  (ixs 1 t30 t32 (fun t34 w =>
  ld1 t34 (fun t35 w =>
  boI .add t2 (.int .i64 1) (fun t40 w =>
  nck t0 (fun t43 w =>
  fd 0 t43 (fun t44 w =>
  fd 9 t44 (fun t45 w =>
  ld1 t45 (fun t46 w =>
  boI .add t2 t46 (fun t47 w =>
  cl Tryz.prog 242 #[t1, t35, t40, t47] (fun t48 w =>
  exq t48 0 (fun t49 w =>
  exq t48 1 (fun t50 w =>
  ifb t50
  (cl Tryz.prog 243 #[t1, t35, t49] (fun t55 w =>
  cl Tryz.prog 235 #[t0, t35] (fun t58 w =>
  bdq [(.int .i64 0), (.int .i64 0)] [(some (0, 1), t35), (some (1, 1), t49)] (fun t62 w =>
  bsq 90 [(.int .i64 0), (.int .i64 0)] 1 [(some (0, 2), t62)] (fun t63 w =>
  apq 90 [(.int .i64 0), (.int .i64 0)] 16 t7 t63 (fun t64 w =>
  B2 [t0, t1, t2, t64, t8, (.bool true), t19, t20] w) w) w) w) w) w)
  (boI .add t32 (.int .i64 1) (fun t65 w =>
  B3 [t0, t1, t2, t7, t8, t9, t19, t20, t30, t31, t65] w) w)) w) w) w) w) w) w) w) w) w) w) w)
  (B2 [t0, t1, t2, t7, t8, t9, t19, t20] w)) w
def s236_p3_den (K : Value → World → Prop) (M1 : (Nat → Value) → World → Prop) (M2 : (Nat → Value) → World → Prop) (M3 : (Nat → Value) → World → Prop) : (Nat → Value) → World → Prop := denL Tryz.prog [(cd (Tryz.f236.body.getD .skip) [1, 1, 0, 1, 0, 0, 1, 1, 0, 0, 1, 1, 0, 0, 1, 0, 1, 1, 0, 0, 0]), (cd (Tryz.f236.body.getD .skip) [1, 1, 0, 1, 0, 0, 1, 1, 0, 0, 1, 1, 0, 0, 1, 0, 1, 1, 0, 0, 1, 0]), (cd (Tryz.f236.body.getD .skip) [1, 1, 0, 1, 0, 0, 1, 1, 0, 0, 1, 1, 0, 0, 1, 0, 1, 1, 0, 0, 1, 1, 0]), (cd (Tryz.f236.body.getD .skip) [1, 1, 0, 1, 0, 0, 1, 1, 0, 0, 1, 1, 0, 0, 1, 0, 1, 1, 0, 0, 1, 1, 1])] M3 (fun i => (bif Nat.beq i 4 then M2 else (bif Nat.beq i 3 then M2 else (bif Nat.beq i 2 then (s236_p2_den K M1) else (bif Nat.beq i 1 then (s236_p2_den K M1) else (bif Nat.beq i 0 then (s236_p1_den K) else (fun _ _ => False))))))) (s236_R K)
theorem s236_p3_ok (K : Value → World → Prop) (B1 : List Value → World → Prop) (B2 : List Value → World → Prop) (B3 : List Value → World → Prop) (s : Nat → Value) (w : World) (h : s236_p3 K B1 B2 B3 (s 0) (s 1) (s 2) (s 7) (s 8) (s 9) (s 19) (s 20) (s 30) (s 31) (s 32) w) : Tr (s236_p3_den K (fun s w => B1 [s 0, s 1, s 2, s 7, s 19, s 20] w) (fun s w => B2 [s 0, s 1, s 2, s 7, s 8, s 9, s 19, s 20] w) (fun s w => B3 [s 0, s 1, s 2, s 7, s 8, s 9, s 19, s 20, s 30, s 31, s 32] w) s w) :=
  tr_simple (P := Tryz.prog) (codes := [(cd (Tryz.f236.body.getD .skip) [1, 1, 0, 1, 0, 0, 1, 1, 0, 0, 1, 1, 0, 0, 1, 0, 1, 1, 0, 0, 0]), (cd (Tryz.f236.body.getD .skip) [1, 1, 0, 1, 0, 0, 1, 1, 0, 0, 1, 1, 0, 0, 1, 0, 1, 1, 0, 0, 1, 0]), (cd (Tryz.f236.body.getD .skip) [1, 1, 0, 1, 0, 0, 1, 1, 0, 0, 1, 1, 0, 0, 1, 0, 1, 1, 0, 0, 1, 1, 0]), (cd (Tryz.f236.body.getD .skip) [1, 1, 0, 1, 0, 0, 1, 1, 0, 0, 1, 1, 0, 0, 1, 0, 1, 1, 0, 0, 1, 1, 1])]) (N := (fun s w => B3 [s 0, s 1, s 2, s 7, s 8, s 9, s 19, s 20, s 30, s 31, s 32] w)) (N' := (fun s w => B3 [s 0, s 1, s 2, s 7, s 8, s 9, s 19, s 20, s 30, s 31, s 32] w)) (X := (fun i => (bif Nat.beq i 4 then (fun s w => B2 [s 0, s 1, s 2, s 7, s 8, s 9, s 19, s 20] w) else (bif Nat.beq i 3 then (fun s w => B2 [s 0, s 1, s 2, s 7, s 8, s 9, s 19, s 20] w) else (bif Nat.beq i 2 then (fun s w => s236_p2 K B1 (s 0) (s 1) (s 2) (s 7) (s 19) (s 20) w) else (bif Nat.beq i 1 then (fun s w => s236_p2 K B1 (s 0) (s 1) (s 2) (s 7) (s 19) (s 20) w) else (bif Nat.beq i 0 then (fun s w => s236_p1 K (s 7) w) else (fun _ _ => False)))))))) (X' := (fun i => (bif Nat.beq i 4 then (fun s w => B2 [s 0, s 1, s 2, s 7, s 8, s 9, s 19, s 20] w) else (bif Nat.beq i 3 then (fun s w => B2 [s 0, s 1, s 2, s 7, s 8, s 9, s 19, s 20] w) else (bif Nat.beq i 2 then (s236_p2_den K (fun s w => B1 [s 0, s 1, s 2, s 7, s 19, s 20] w)) else (bif Nat.beq i 1 then (s236_p2_den K (fun s w => B1 [s 0, s 1, s 2, s 7, s 19, s 20] w)) else (bif Nat.beq i 0 then (s236_p1_den K) else (fun _ _ => False)))))))) (R := s236_R K) (s := s) (w := w) (p := s236_p3 K B1 B2 B3 (s 0) (s 1) (s 2) (s 7) (s 8) (s 9) (s 19) (s 20) (s 30) (s 31) (s 32) w) (q := s236_p3_den K (fun s w => B1 [s 0, s 1, s 2, s 7, s 19, s 20] w) (fun s w => B2 [s 0, s 1, s 2, s 7, s 8, s 9, s 19, s 20] w) (fun s w => B3 [s 0, s 1, s 2, s 7, s 8, s 9, s 19, s 20, s 30, s 31, s 32] w) s w) tr_id (fun i => (tr_bif tr_id (tr_bif tr_id (tr_bif (fun s w h => s236_p2_ok K B1 s w @h) (tr_bif (fun s w h => s236_p2_ok K B1 s w @h) (tr_bif (fun s w h => s236_p1_ok K s w @h) tr_id)))))) (by kernel_rfl) (by kernel_rfl) @h
def s236_p4_F (K : Value → World → Prop) (B1 : List Value → World → Prop) (B2 : List Value → World → Prop) (B3 : List Value → World → Prop) (l : List Value) (w : World) : Prop :=
  match l with
  | [t0, t1, t2, t7, t8, t9, t19, t20, t30, t31, t32] => s236_p3 K B1 B2 B3 t0 t1 t2 t7 t8 t9 t19 t20 t30 t31 t32 w
  | _ => False
theorem s236_p4_Fe {K : Value → World → Prop} {B1 : List Value → World → Prop} {B2 : List Value → World → Prop} {B3 : List Value → World → Prop} {t0 t1 t2 t7 t8 t9 t19 t20 t30 t31 t32 : Value} {w : World} : s236_p4_F K B1 B2 B3 [t0, t1, t2, t7, t8, t9, t19, t20, t30, t31, t32] w = s236_p3 K B1 B2 B3 t0 t1 t2 t7 t8 t9 t19 t20 t30 t31 t32 w := by kernel_rfl
def s236_p4 (K : Value → World → Prop) (B1 : List Value → World → Prop) (B2 : List Value → World → Prop) (t0 t1 t2 t7 t8 t9 t19 t20 t30 t31 t32 : Value) (w : World) : Prop :=
  LoopL (s236_p4_F K B1 B2) [t0, t1, t2, t7, t8, t9, t19, t20, t30, t31, t32] w
def s236_p4_den (K : Value → World → Prop) (M1 : (Nat → Value) → World → Prop) (M2 : (Nat → Value) → World → Prop) : (Nat → Value) → World → Prop := fun s w => LoopP (fun M3 s w => s236_p3_den K M1 M2 M3 s w) s w
theorem s236_p4_ok (K : Value → World → Prop) (B1 : List Value → World → Prop) (B2 : List Value → World → Prop) (s : Nat → Value) (w : World) (h : s236_p4 K B1 B2 (s 0) (s 1) (s 2) (s 7) (s 8) (s 9) (s 19) (s 20) (s 30) (s 31) (s 32) w) : Tr (s236_p4_den K (fun s w => B1 [s 0, s 1, s 2, s 7, s 19, s 20] w) (fun s w => B2 [s 0, s 1, s 2, s 7, s 8, s 9, s 19, s 20] w) s w) :=
  tr_loop (G := fun N' s w => s236_p3_den K (fun s w => B1 [s 0, s 1, s 2, s 7, s 19, s 20] w) (fun s w => B2 [s 0, s 1, s 2, s 7, s 8, s 9, s 19, s 20] w) N' s w) (F := s236_p4_F K B1 B2) (sel := fun s => [s 0, s 1, s 2, s 7, s 8, s 9, s 19, s 20, s 30, s 31, s 32]) (s := s) (w := w) (p := s236_p4 K B1 B2 (s 0) (s 1) (s 2) (s 7) (s 8) (s 9) (s 19) (s 20) (s 30) (s 31) (s 32) w) (q := s236_p4_den K (fun s w => B1 [s 0, s 1, s 2, s 7, s 19, s 20] w) (fun s w => B2 [s 0, s 1, s 2, s 7, s 8, s 9, s 19, s 20] w) s w) (fun B s w h => s236_p3_ok K B1 B2 B s w @h) (by kernel_rfl) (by kernel_rfl) @h
def s236_p5 (K : Value → World → Prop) (B1 : List Value → World → Prop) (B2 : List Value → World → Prop) (t0 t1 t2 t7 t8 t19 t20 : Value) (w : World) : Prop :=
  nck t0 (fun t25 w =>
  fd 14 t25 (fun t26 w =>
  ld1 t26 (fun t27 w =>
  ixs 1 t27 t8 (fun t29 w =>
  ld1 t29 (fun t30 w =>
  lnS t30 (fun t31 w =>
  s236_p4 K B1 B2 t0 t1 t2 t7 t8 (.bool false) t19 t20 t30 t31 (.int .i64 0) w) w) w) w) w) w) w
def s236_p5_den (K : Value → World → Prop) (M1 : (Nat → Value) → World → Prop) (M2 : (Nat → Value) → World → Prop) : (Nat → Value) → World → Prop := denL Tryz.prog [(cd (Tryz.f236.body.getD .skip) [1, 1, 0, 1, 0, 0, 1, 1, 0, 0, 1, 1, 0, 0, 1, 0, 0]), (cd (Tryz.f236.body.getD .skip) [1, 1, 0, 1, 0, 0, 1, 1, 0, 0, 1, 1, 0, 0, 1, 0, 1, 0])] (s236_p4_den K M1 M2) (fun i => (bif Nat.beq i 3 then M2 else (bif Nat.beq i 2 then (s236_p2_den K M1) else (bif Nat.beq i 1 then (s236_p2_den K M1) else (bif Nat.beq i 0 then (s236_p1_den K) else (fun _ _ => False)))))) (s236_R K)
theorem s236_p5_ok (K : Value → World → Prop) (B1 : List Value → World → Prop) (B2 : List Value → World → Prop) (s : Nat → Value) (w : World) (h : s236_p5 K B1 B2 (s 0) (s 1) (s 2) (s 7) (s 8) (s 19) (s 20) w) : Tr (s236_p5_den K (fun s w => B1 [s 0, s 1, s 2, s 7, s 19, s 20] w) (fun s w => B2 [s 0, s 1, s 2, s 7, s 8, s 9, s 19, s 20] w) s w) :=
  tr_simple (P := Tryz.prog) (codes := [(cd (Tryz.f236.body.getD .skip) [1, 1, 0, 1, 0, 0, 1, 1, 0, 0, 1, 1, 0, 0, 1, 0, 0]), (cd (Tryz.f236.body.getD .skip) [1, 1, 0, 1, 0, 0, 1, 1, 0, 0, 1, 1, 0, 0, 1, 0, 1, 0])]) (N := (fun s w => s236_p4 K B1 B2 (s 0) (s 1) (s 2) (s 7) (s 8) (s 9) (s 19) (s 20) (s 30) (s 31) (s 32) w)) (N' := (s236_p4_den K (fun s w => B1 [s 0, s 1, s 2, s 7, s 19, s 20] w) (fun s w => B2 [s 0, s 1, s 2, s 7, s 8, s 9, s 19, s 20] w))) (X := (fun i => (bif Nat.beq i 3 then (fun s w => B2 [s 0, s 1, s 2, s 7, s 8, s 9, s 19, s 20] w) else (bif Nat.beq i 2 then (fun s w => s236_p2 K B1 (s 0) (s 1) (s 2) (s 7) (s 19) (s 20) w) else (bif Nat.beq i 1 then (fun s w => s236_p2 K B1 (s 0) (s 1) (s 2) (s 7) (s 19) (s 20) w) else (bif Nat.beq i 0 then (fun s w => s236_p1 K (s 7) w) else (fun _ _ => False))))))) (X' := (fun i => (bif Nat.beq i 3 then (fun s w => B2 [s 0, s 1, s 2, s 7, s 8, s 9, s 19, s 20] w) else (bif Nat.beq i 2 then (s236_p2_den K (fun s w => B1 [s 0, s 1, s 2, s 7, s 19, s 20] w)) else (bif Nat.beq i 1 then (s236_p2_den K (fun s w => B1 [s 0, s 1, s 2, s 7, s 19, s 20] w)) else (bif Nat.beq i 0 then (s236_p1_den K) else (fun _ _ => False))))))) (R := s236_R K) (s := s) (w := w) (p := s236_p5 K B1 B2 (s 0) (s 1) (s 2) (s 7) (s 8) (s 19) (s 20) w) (q := s236_p5_den K (fun s w => B1 [s 0, s 1, s 2, s 7, s 19, s 20] w) (fun s w => B2 [s 0, s 1, s 2, s 7, s 8, s 9, s 19, s 20] w) s w) (fun s w h => s236_p4_ok K B1 B2 s w @h) (fun i => (tr_bif tr_id (tr_bif (fun s w h => s236_p2_ok K B1 s w @h) (tr_bif (fun s w h => s236_p2_ok K B1 s w @h) (tr_bif (fun s w h => s236_p1_ok K s w @h) tr_id))))) (by kernel_rfl) (by kernel_rfl) @h
def s236_p6 (K : Value → World → Prop) (B1 : List Value → World → Prop) (B2 : List Value → World → Prop) (t0 t1 t2 t7 t8 t9 t19 t20 : Value) (w : World) : Prop :=
  ifb t9
  (s236_p5 K B1 B2 t0 t1 t2 t7 t8 t19 t20 w)
  (s236_p2 K B1 t0 t1 t2 t7 t19 t20 w)
def s236_p6_den (K : Value → World → Prop) (M1 : (Nat → Value) → World → Prop) (M2 : (Nat → Value) → World → Prop) : (Nat → Value) → World → Prop := denL Tryz.prog [(cd (Tryz.f236.body.getD .skip) [1, 1, 0, 1, 0, 0, 1, 1, 0, 0, 1, 1, 0, 0, 0, 0]), (cd (Tryz.f236.body.getD .skip) [1, 1, 0, 1, 0, 0, 1, 1, 0, 0, 1, 1, 0, 0, 0, 1])] (s236_p5_den K M1 M2) (fun i => (bif Nat.beq i 2 then (s236_p2_den K M1) else (bif Nat.beq i 1 then (s236_p2_den K M1) else (bif Nat.beq i 0 then (s236_p1_den K) else (fun _ _ => False))))) (s236_R K)
theorem s236_p6_ok (K : Value → World → Prop) (B1 : List Value → World → Prop) (B2 : List Value → World → Prop) (s : Nat → Value) (w : World) (h : s236_p6 K B1 B2 (s 0) (s 1) (s 2) (s 7) (s 8) (s 9) (s 19) (s 20) w) : Tr (s236_p6_den K (fun s w => B1 [s 0, s 1, s 2, s 7, s 19, s 20] w) (fun s w => B2 [s 0, s 1, s 2, s 7, s 8, s 9, s 19, s 20] w) s w) :=
  tr_simple (P := Tryz.prog) (codes := [(cd (Tryz.f236.body.getD .skip) [1, 1, 0, 1, 0, 0, 1, 1, 0, 0, 1, 1, 0, 0, 0, 0]), (cd (Tryz.f236.body.getD .skip) [1, 1, 0, 1, 0, 0, 1, 1, 0, 0, 1, 1, 0, 0, 0, 1])]) (N := (fun s w => s236_p5 K B1 B2 (s 0) (s 1) (s 2) (s 7) (s 8) (s 19) (s 20) w)) (N' := (s236_p5_den K (fun s w => B1 [s 0, s 1, s 2, s 7, s 19, s 20] w) (fun s w => B2 [s 0, s 1, s 2, s 7, s 8, s 9, s 19, s 20] w))) (X := (fun i => (bif Nat.beq i 2 then (fun s w => s236_p2 K B1 (s 0) (s 1) (s 2) (s 7) (s 19) (s 20) w) else (bif Nat.beq i 1 then (fun s w => s236_p2 K B1 (s 0) (s 1) (s 2) (s 7) (s 19) (s 20) w) else (bif Nat.beq i 0 then (fun s w => s236_p1 K (s 7) w) else (fun _ _ => False)))))) (X' := (fun i => (bif Nat.beq i 2 then (s236_p2_den K (fun s w => B1 [s 0, s 1, s 2, s 7, s 19, s 20] w)) else (bif Nat.beq i 1 then (s236_p2_den K (fun s w => B1 [s 0, s 1, s 2, s 7, s 19, s 20] w)) else (bif Nat.beq i 0 then (s236_p1_den K) else (fun _ _ => False)))))) (R := s236_R K) (s := s) (w := w) (p := s236_p6 K B1 B2 (s 0) (s 1) (s 2) (s 7) (s 8) (s 9) (s 19) (s 20) w) (q := s236_p6_den K (fun s w => B1 [s 0, s 1, s 2, s 7, s 19, s 20] w) (fun s w => B2 [s 0, s 1, s 2, s 7, s 8, s 9, s 19, s 20] w) s w) (fun s w h => s236_p5_ok K B1 B2 s w @h) (fun i => (tr_bif (fun s w h => s236_p2_ok K B1 s w @h) (tr_bif (fun s w h => s236_p2_ok K B1 s w @h) (tr_bif (fun s w h => s236_p1_ok K s w @h) tr_id)))) (by kernel_rfl) (by kernel_rfl) @h
def s236_p7_F (K : Value → World → Prop) (B1 : List Value → World → Prop) (B2 : List Value → World → Prop) (l : List Value) (w : World) : Prop :=
  match l with
  | [t0, t1, t2, t7, t8, t9, t19, t20] => s236_p6 K B1 B2 t0 t1 t2 t7 t8 t9 t19 t20 w
  | _ => False
theorem s236_p7_Fe {K : Value → World → Prop} {B1 : List Value → World → Prop} {B2 : List Value → World → Prop} {t0 t1 t2 t7 t8 t9 t19 t20 : Value} {w : World} : s236_p7_F K B1 B2 [t0, t1, t2, t7, t8, t9, t19, t20] w = s236_p6 K B1 B2 t0 t1 t2 t7 t8 t9 t19 t20 w := by kernel_rfl
def s236_p7 (K : Value → World → Prop) (B1 : List Value → World → Prop) (t0 t1 t2 t7 t8 t9 t19 t20 : Value) (w : World) : Prop :=
  LoopL (s236_p7_F K B1) [t0, t1, t2, t7, t8, t9, t19, t20] w
def s236_p7_den (K : Value → World → Prop) (M1 : (Nat → Value) → World → Prop) : (Nat → Value) → World → Prop := fun s w => LoopP (fun M2 s w => s236_p6_den K M1 M2 s w) s w
theorem s236_p7_ok (K : Value → World → Prop) (B1 : List Value → World → Prop) (s : Nat → Value) (w : World) (h : s236_p7 K B1 (s 0) (s 1) (s 2) (s 7) (s 8) (s 9) (s 19) (s 20) w) : Tr (s236_p7_den K (fun s w => B1 [s 0, s 1, s 2, s 7, s 19, s 20] w) s w) :=
  tr_loop (G := fun N' s w => s236_p6_den K (fun s w => B1 [s 0, s 1, s 2, s 7, s 19, s 20] w) N' s w) (F := s236_p7_F K B1) (sel := fun s => [s 0, s 1, s 2, s 7, s 8, s 9, s 19, s 20]) (s := s) (w := w) (p := s236_p7 K B1 (s 0) (s 1) (s 2) (s 7) (s 8) (s 9) (s 19) (s 20) w) (q := s236_p7_den K (fun s w => B1 [s 0, s 1, s 2, s 7, s 19, s 20] w) s w) (fun B s w h => s236_p6_ok K B1 B s w @h) (by kernel_rfl) (by kernel_rfl) @h
def s236_p8 (K : Value → World → Prop) (B1 : List Value → World → Prop) (t0 t1 t2 t7 t19 t20 : Value) (w : World) : Prop :=
  s236_p7 K B1 t0 t1 t2 t7 t20 (.bool true) t19 t20 w
def s236_p8_den (K : Value → World → Prop) (M1 : (Nat → Value) → World → Prop) : (Nat → Value) → World → Prop := denL Tryz.prog [(cd (Tryz.f236.body.getD .skip) [1, 1, 0, 1, 0, 0, 1, 1, 0, 0, 0]), (cd (Tryz.f236.body.getD .skip) [1, 1, 0, 1, 0, 0, 1, 1, 0, 0, 1, 0])] (s236_p7_den K M1) (fun i => (bif Nat.beq i 1 then (s236_p2_den K M1) else (bif Nat.beq i 0 then (s236_p1_den K) else (fun _ _ => False)))) (s236_R K)
theorem s236_p8_ok (K : Value → World → Prop) (B1 : List Value → World → Prop) (s : Nat → Value) (w : World) (h : s236_p8 K B1 (s 0) (s 1) (s 2) (s 7) (s 19) (s 20) w) : Tr (s236_p8_den K (fun s w => B1 [s 0, s 1, s 2, s 7, s 19, s 20] w) s w) :=
  tr_simple (P := Tryz.prog) (codes := [(cd (Tryz.f236.body.getD .skip) [1, 1, 0, 1, 0, 0, 1, 1, 0, 0, 0]), (cd (Tryz.f236.body.getD .skip) [1, 1, 0, 1, 0, 0, 1, 1, 0, 0, 1, 0])]) (N := (fun s w => s236_p7 K B1 (s 0) (s 1) (s 2) (s 7) (s 8) (s 9) (s 19) (s 20) w)) (N' := (s236_p7_den K (fun s w => B1 [s 0, s 1, s 2, s 7, s 19, s 20] w))) (X := (fun i => (bif Nat.beq i 1 then (fun s w => s236_p2 K B1 (s 0) (s 1) (s 2) (s 7) (s 19) (s 20) w) else (bif Nat.beq i 0 then (fun s w => s236_p1 K (s 7) w) else (fun _ _ => False))))) (X' := (fun i => (bif Nat.beq i 1 then (s236_p2_den K (fun s w => B1 [s 0, s 1, s 2, s 7, s 19, s 20] w)) else (bif Nat.beq i 0 then (s236_p1_den K) else (fun _ _ => False))))) (R := s236_R K) (s := s) (w := w) (p := s236_p8 K B1 (s 0) (s 1) (s 2) (s 7) (s 19) (s 20) w) (q := s236_p8_den K (fun s w => B1 [s 0, s 1, s 2, s 7, s 19, s 20] w) s w) (fun s w h => s236_p7_ok K B1 s w @h) (fun i => (tr_bif (fun s w h => s236_p2_ok K B1 s w @h) (tr_bif (fun s w h => s236_p1_ok K s w @h) tr_id))) (by kernel_rfl) (by kernel_rfl) @h
def s236_p9 (K : Value → World → Prop) (B1 : List Value → World → Prop) (t0 t1 t2 t7 t19 t20 : Value) (w : World) : Prop :=
  boI .lss t20 t19 (fun t21 w =>
  ifb t21
  (s236_p8 K B1 t0 t1 t2 t7 t19 t20 w)
  (s236_p1 K t7 w)) w
def s236_p9_den (K : Value → World → Prop) (M1 : (Nat → Value) → World → Prop) : (Nat → Value) → World → Prop := denL Tryz.prog [(cd (Tryz.f236.body.getD .skip) [1, 1, 0, 1, 0, 0, 0]), (cd (Tryz.f236.body.getD .skip) [1, 1, 0, 1, 0, 0, 1, 0])] (s236_p8_den K M1) (fun i => (bif Nat.beq i 0 then (s236_p1_den K) else (fun _ _ => False))) (s236_R K)
theorem s236_p9_ok (K : Value → World → Prop) (B1 : List Value → World → Prop) (s : Nat → Value) (w : World) (h : s236_p9 K B1 (s 0) (s 1) (s 2) (s 7) (s 19) (s 20) w) : Tr (s236_p9_den K (fun s w => B1 [s 0, s 1, s 2, s 7, s 19, s 20] w) s w) :=
  tr_simple (P := Tryz.prog) (codes := [(cd (Tryz.f236.body.getD .skip) [1, 1, 0, 1, 0, 0, 0]), (cd (Tryz.f236.body.getD .skip) [1, 1, 0, 1, 0, 0, 1, 0])]) (N := (fun s w => s236_p8 K B1 (s 0) (s 1) (s 2) (s 7) (s 19) (s 20) w)) (N' := (s236_p8_den K (fun s w => B1 [s 0, s 1, s 2, s 7, s 19, s 20] w))) (X := (fun i => (bif Nat.beq i 0 then (fun s w => s236_p1 K (s 7) w) else (fun _ _ => False)))) (X' := (fun i => (bif Nat.beq i 0 then (s236_p1_den K) else (fun _ _ => False)))) (R := s236_R K) (s := s) (w := w) (p := s236_p9 K B1 (s 0) (s 1) (s 2) (s 7) (s 19) (s 20) w) (q := s236_p9_den K (fun s w => B1 [s 0, s 1, s 2, s 7, s 19, s 20] w) s w) (fun s w h => s236_p8_ok K B1 s w @h) (fun i => (tr_bif (fun s w h => s236_p1_ok K s w @h) tr_id)) (by kernel_rfl) (by kernel_rfl) @h
def s236_p10_F (K : Value → World → Prop) (B1 : List Value → World → Prop) (l : List Value) (w : World) : Prop :=
  match l with
  | [t0, t1, t2, t7, t19, t20] => s236_p9 K B1 t0 t1 t2 t7 t19 t20 w
  | _ => False
theorem s236_p10_Fe {K : Value → World → Prop} {B1 : List Value → World → Prop} {t0 t1 t2 t7 t19 t20 : Value} {w : World} : s236_p10_F K B1 [t0, t1, t2, t7, t19, t20] w = s236_p9 K B1 t0 t1 t2 t7 t19 t20 w := by kernel_rfl
def s236_p10 (K : Value → World → Prop) (t0 t1 t2 t7 t19 t20 : Value) (w : World) : Prop :=
  LoopL (s236_p10_F K) [t0, t1, t2, t7, t19, t20] w
def s236_p10_den (K : Value → World → Prop) : (Nat → Value) → World → Prop := fun s w => LoopP (fun M1 s w => s236_p9_den K M1 s w) s w
theorem s236_p10_ok (K : Value → World → Prop) (s : Nat → Value) (w : World) (h : s236_p10 K (s 0) (s 1) (s 2) (s 7) (s 19) (s 20) w) : Tr (s236_p10_den K s w) :=
  tr_loop (G := fun N' s w => s236_p9_den K N' s w) (F := s236_p10_F K) (sel := fun s => [s 0, s 1, s 2, s 7, s 19, s 20]) (s := s) (w := w) (p := s236_p10 K (s 0) (s 1) (s 2) (s 7) (s 19) (s 20) w) (q := s236_p10_den K s w) (fun B s w h => s236_p9_ok K B s w @h) (by kernel_rfl) (by kernel_rfl) @h
def s236_p11 (K : Value → World → Prop) (t0 t1 t2 : Value) (w : World) : Prop :=
  bsq 90 [(.int .i64 0), (.int .i64 0)] 0 [] (fun t14 w =>
  nck t0 (fun t16 w =>
  fd 14 t16 (fun t17 w =>
  ld1 t17 (fun t18 w =>
  lnS t18 (fun t19 w =>
  s236_p10 K t0 t1 t2 t14 t19 (.int .i64 0) w) w) w) w) w) w
def s236_p11_den (K : Value → World → Prop) : (Nat → Value) → World → Prop := denL Tryz.prog [(cd (Tryz.f236.body.getD .skip) [0]), (cd (Tryz.f236.body.getD .skip) [1, 0]), (cd (Tryz.f236.body.getD .skip) [1, 1, 0, 0])] (s236_p10_den K) (fun i => (fun _ _ => False)) (s236_R K)
theorem s236_p11_ok (K : Value → World → Prop) (s : Nat → Value) (w : World) (h : s236_p11 K (s 0) (s 1) (s 2) w) : Tr (s236_p11_den K s w) :=
  tr_simple (P := Tryz.prog) (codes := [(cd (Tryz.f236.body.getD .skip) [0]), (cd (Tryz.f236.body.getD .skip) [1, 0]), (cd (Tryz.f236.body.getD .skip) [1, 1, 0, 0])]) (N := (fun s w => s236_p10 K (s 0) (s 1) (s 2) (s 7) (s 19) (s 20) w)) (N' := (s236_p10_den K)) (X := (fun i => (fun _ _ => False))) (X' := (fun i => (fun _ _ => False))) (R := s236_R K) (s := s) (w := w) (p := s236_p11 K (s 0) (s 1) (s 2) w) (q := s236_p11_den K s w) (fun s w h => s236_p10_ok K s w @h) (fun i => tr_id) (by kernel_rfl) (by kernel_rfl) @h
/-- the call, from the text -/
theorem c236 (t0 t1 t2 : Value) {K : Value → World → Prop} {w : World} (h : s236_p11 K t0 t1 t2 w) : cl Tryz.prog 236 #[t0, t1, t2] K w :=
  calls_of_tr (c := (Tryz.f236.body.getD .skip)) (fn := Tryz.f236) (q := s236_p11_den K (st0 #[t0, t1, t2]) w) Tryz.func236 (by kernel_rfl) (by kernel_rfl) (Nat.le_of_ble_eq_true (by kernel_rfl)) (by kernel_rfl) (by kernel_rfl) (s236_p11_ok K (st0 #[t0, t1, t2]) w @h)

/-! ### function 197 : e2e.bookingm.Live -/
def s197_R (K : Value → World → Prop) (s : Nat → Value) (w : World) : Prop := retv Tryz.prog s Tryz.f197.results.toList (fun vs => K (pack vs) w) w
def s197_p1 (K : Value → World → Prop) (t0 : Value) (w : World) : Prop :=
  boI .eql t0 (.int .i64 1) (fun t4 w =>
  gd t4 false (fun K w => K t0 w) (fun t6 w =>
  gd t4 false (boI .eql t6 (.int .i64 2)) (fun t7 w =>
  pk t4 (.bool true) t7 (fun t8 w =>
  gd t8 false (fun K w => K t0 w) (fun t10 w =>
  gd t8 false (boI .eql t10 (.int .i64 3)) (fun t11 w =>
  pk t8 (.bool true) t11 (fun t12 w =>
  gd t12 false (fun K w => K t0 w) (fun t14 w =>
  gd t12 false (boI .eql t14 (.int .i64 8)) (fun t15 w =>
  pk t12 (.bool true) t15 (fun t16 w =>
  K t16 w) w) w) w) w) w) w) w) w) w) w
def s197_p1_den (K : Value → World → Prop) : (Nat → Value) → World → Prop := denL Tryz.prog [(cd (Tryz.f197.body.getD .skip) [0]), (cd (Tryz.f197.body.getD .skip) [1, 0]), (cd (Tryz.f197.body.getD .skip) [1, 1])] (fun _ _ => False) (fun i => (fun _ _ => False)) (s197_R K)
theorem s197_p1_ok (K : Value → World → Prop) (s : Nat → Value) (w : World) (h : s197_p1 K (s 0) w) : Tr (s197_p1_den K s w) :=
  tr_simple (P := Tryz.prog) (codes := [(cd (Tryz.f197.body.getD .skip) [0]), (cd (Tryz.f197.body.getD .skip) [1, 0]), (cd (Tryz.f197.body.getD .skip) [1, 1])]) (N := (fun _ _ => False)) (N' := (fun _ _ => False)) (X := (fun i => (fun _ _ => False))) (X' := (fun i => (fun _ _ => False))) (R := s197_R K) (s := s) (w := w) (p := s197_p1 K (s 0) w) (q := s197_p1_den K s w) tr_id (fun i => tr_id) (by kernel_rfl) (by kernel_rfl) @h
/-- the call, from the text -/
theorem c197 (t0 : Value) {K : Value → World → Prop} {w : World} (h : s197_p1 K t0 w) : cl Tryz.prog 197 #[t0] K w :=
  calls_of_tr (c := (Tryz.f197.body.getD .skip)) (fn := Tryz.f197) (q := s197_p1_den K (st0 #[t0]) w) Tryz.func197 (by kernel_rfl) (by kernel_rfl) (Nat.le_of_ble_eq_true (by kernel_rfl)) (by kernel_rfl) (by kernel_rfl) (s197_p1_ok K (st0 #[t0]) w @h)

end Go.Proofs.Qxb6500896aGreat
