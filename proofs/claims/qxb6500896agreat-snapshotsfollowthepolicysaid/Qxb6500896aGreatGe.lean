import Derived.Test.Qxb6500896aGreatProg
import Derived.Test.Qxb6500896aGreatShMix3
namespace Go.Proofs.Qxb6500896aGreat
open Go.Sh Go.RowKit
set_option linter.unusedVariables false
set_option maxRecDepth 100000

/-! ### function 40 : (*e2e.engine.Engine).Handle -/
def s40_R (K : Value → World → Prop) (s : Nat → Value) (w : World) : Prop := retv Tryz.prog s Tryz.f40.results.toList (fun vs => K (pack vs) w) w
def s40_p1 (K : Value → World → Prop) (t5 : Value) (w : World) : Prop :=
  ldn 34 t5 (fun t13 w =>
  cl Tryz.prog 59 #[t13] (fun t14 w =>
  K t14 w) w) w
def s40_p1_den (K : Value → World → Prop) : (Nat → Value) → World → Prop := denL Tryz.prog [(cd (Tryz.f40.body.getD .skip) [1, 1, 1, 0]), (cd (Tryz.f40.body.getD .skip) [1, 1, 1, 1])] (fun _ _ => False) (fun i => (fun _ _ => False)) (s40_R K)
theorem s40_p1_ok (K : Value → World → Prop) (s : Nat → Value) (w : World) (h : s40_p1 K (s 5) w) : Tr (s40_p1_den K s w) :=
  tr_simple (P := Tryz.prog) (codes := [(cd (Tryz.f40.body.getD .skip) [1, 1, 1, 0]), (cd (Tryz.f40.body.getD .skip) [1, 1, 1, 1])]) (N := (fun _ _ => False)) (N' := (fun _ _ => False)) (X := (fun i => (fun _ _ => False))) (X' := (fun i => (fun _ _ => False))) (R := s40_R K) (s := s) (w := w) (p := s40_p1 K (s 5) w) (q := s40_p1_den K s w) tr_id (fun i => tr_id) (by kernel_rfl) (by kernel_rfl) @h
def s40_p2 (K : Value → World → Prop) (t0 t1 : Value) (w : World) : Prop :=
  cl Tryz.prog 127 #[t0, t1] (fun t8 w =>
  nw 94 #[(.int .i64 0), (.int .u8 0), (.int .i64 0), (.int .i64 0), (.int .i64 0), (.int .i64 0), (.int .i64 0), (.slice none 0 0), (.int .i64 0), (.int .i64 0), (.int .i64 0), (.slice none 0 0), (.int .i64 0), (.int .i64 0), (.int .i64 0), (.int .i64 0), (.int .i64 0), (.int .i64 0), (.slice none 0 0), (.int .i64 0), (.int .i64 0), (.int .i64 0), (.int .i64 0), (.int .i64 0), (.int .i64 0), (.int .i64 0), (.int .i64 0), (.int .i64 0), (.int .i64 0), (.int .i64 0), (.int .i64 0), (.int .i64 0), (.int .i64 0), (.int .i64 0)] (fun t5 w =>
  stn 34 t5 t8 (fun w =>
  cl Tryz.prog 128 #[t0] (fun t10 w =>
  boI .neq t10 (.int .i64 0) (fun t11 w =>
  ifb t11
  (cl Tryz.prog 129 #[(.int .i64 19)] (fun t12 w =>
  stn 34 t5 t12 (fun w =>
  s40_p1 K t5 w) w) w)
  (s40_p1 K t5 w)) w) w) w) w) w
def s40_p2_den (K : Value → World → Prop) : (Nat → Value) → World → Prop := denL Tryz.prog [(cd (Tryz.f40.body.getD .skip) [0]), (cd (Tryz.f40.body.getD .skip) [1, 0]), (cd (Tryz.f40.body.getD .skip) [1, 1, 0, 0]), (cd (Tryz.f40.body.getD .skip) [1, 1, 0, 1])] (s40_p1_den K) (fun i => (fun _ _ => False)) (s40_R K)
theorem s40_p2_ok (K : Value → World → Prop) (s : Nat → Value) (w : World) (h : s40_p2 K (s 0) (s 1) w) : Tr (s40_p2_den K s w) :=
  tr_simple (P := Tryz.prog) (codes := [(cd (Tryz.f40.body.getD .skip) [0]), (cd (Tryz.f40.body.getD .skip) [1, 0]), (cd (Tryz.f40.body.getD .skip) [1, 1, 0, 0]), (cd (Tryz.f40.body.getD .skip) [1, 1, 0, 1])]) (N := (fun s w => s40_p1 K (s 5) w)) (N' := (s40_p1_den K)) (X := (fun i => (fun _ _ => False))) (X' := (fun i => (fun _ _ => False))) (R := s40_R K) (s := s) (w := w) (p := s40_p2 K (s 0) (s 1) w) (q := s40_p2_den K s w) (fun s w h => s40_p1_ok K s w @h) (fun i => tr_id) (by kernel_rfl) (by kernel_rfl) @h
/-- the call, from the text -/
theorem c40 (t0 t1 : Value) {K : Value → World → Prop} {w : World} (h : s40_p2 K t0 t1 w) : cl Tryz.prog 40 #[t0, t1] K w :=
  calls_of_tr (c := (Tryz.f40.body.getD .skip)) (fn := Tryz.f40) (q := s40_p2_den K (st0 #[t0, t1]) w) Tryz.func40 (by kernel_rfl) (by kernel_rfl) (Nat.le_of_ble_eq_true (by kernel_rfl)) (by kernel_rfl) (by kernel_rfl) (s40_p2_ok K (st0 #[t0, t1]) w @h)

/-! ### function 58 : (*e2e.engine.Engine).Do -/
def s58_R (K : Value → World → Prop) (s : Nat → Value) (w : World) : Prop := retv Tryz.prog s Tryz.f58.results.toList (fun vs => K (pack vs) w) w
def s58_p1 (K : Value → World → Prop) (t4 t5 : Value) (w : World) : Prop :=
  ldn 34 t5 (fun t13 w =>
  stn 34 t4 t13 (fun w =>
  ldn 34 t4 (fun r0 _ =>
  K r0 w) w) w) w
def s58_p1_den (K : Value → World → Prop) : (Nat → Value) → World → Prop := denL Tryz.prog [(cd (Tryz.f58.body.getD .skip) [1, 1, 1, 0]), (cd (Tryz.f58.body.getD .skip) [1, 1, 1, 1])] (fun _ _ => False) (fun i => (fun _ _ => False)) (s58_R K)
theorem s58_p1_ok (K : Value → World → Prop) (s : Nat → Value) (w : World) (h : s58_p1 K (s 4) (s 5) w) : Tr (s58_p1_den K s w) :=
  tr_simple (P := Tryz.prog) (codes := [(cd (Tryz.f58.body.getD .skip) [1, 1, 1, 0]), (cd (Tryz.f58.body.getD .skip) [1, 1, 1, 1])]) (N := (fun _ _ => False)) (N' := (fun _ _ => False)) (X := (fun i => (fun _ _ => False))) (X' := (fun i => (fun _ _ => False))) (R := s58_R K) (s := s) (w := w) (p := s58_p1 K (s 4) (s 5) w) (q := s58_p1_den K s w) tr_id (fun i => tr_id) (by kernel_rfl) (by kernel_rfl) @h
def s58_p2 (K : Value → World → Prop) (t0 t1 : Value) (w : World) : Prop :=
  nw 52 (t1).cells (fun t3 w =>
  nw 94 #[(.int .i64 0), (.int .u8 0), (.int .i64 0), (.int .i64 0), (.int .i64 0), (.int .i64 0), (.int .i64 0), (.slice none 0 0), (.int .i64 0), (.int .i64 0), (.int .i64 0), (.slice none 0 0), (.int .i64 0), (.int .i64 0), (.int .i64 0), (.int .i64 0), (.int .i64 0), (.int .i64 0), (.slice none 0 0), (.int .i64 0), (.int .i64 0), (.int .i64 0), (.int .i64 0), (.int .i64 0), (.int .i64 0), (.int .i64 0), (.int .i64 0), (.int .i64 0), (.int .i64 0), (.int .i64 0), (.int .i64 0), (.int .i64 0), (.int .i64 0), (.int .i64 0)] (fun t4 w =>
  ldn 8 t3 (fun t7 w =>
  cl Tryz.prog 141 #[t0, t7] (fun t8 w =>
  nw 94 #[(.int .i64 0), (.int .u8 0), (.int .i64 0), (.int .i64 0), (.int .i64 0), (.int .i64 0), (.int .i64 0), (.slice none 0 0), (.int .i64 0), (.int .i64 0), (.int .i64 0), (.slice none 0 0), (.int .i64 0), (.int .i64 0), (.int .i64 0), (.int .i64 0), (.int .i64 0), (.int .i64 0), (.slice none 0 0), (.int .i64 0), (.int .i64 0), (.int .i64 0), (.int .i64 0), (.int .i64 0), (.int .i64 0), (.int .i64 0), (.int .i64 0), (.int .i64 0), (.int .i64 0), (.int .i64 0), (.int .i64 0), (.int .i64 0), (.int .i64 0), (.int .i64 0)] (fun t5 w =>
  stn 34 t5 t8 (fun w =>
  cl Tryz.prog 128 #[t0] (fun t10 w =>
  boI .neq t10 (.int .i64 0) (fun t11 w =>
  ifb t11
  (cl Tryz.prog 129 #[(.int .i64 19)] (fun t12 w =>
  stn 34 t5 t12 (fun w =>
  s58_p1 K t4 t5 w) w) w)
  (s58_p1 K t4 t5 w)) w) w) w) w) w) w) w) w
def s58_p2_den (K : Value → World → Prop) : (Nat → Value) → World → Prop := denL Tryz.prog [(cd (Tryz.f58.body.getD .skip) [0]), (cd (Tryz.f58.body.getD .skip) [1, 0]), (cd (Tryz.f58.body.getD .skip) [1, 1, 0, 0]), (cd (Tryz.f58.body.getD .skip) [1, 1, 0, 1])] (s58_p1_den K) (fun i => (fun _ _ => False)) (s58_R K)
theorem s58_p2_ok (K : Value → World → Prop) (s : Nat → Value) (w : World) (h : s58_p2 K (s 0) (s 1) w) : Tr (s58_p2_den K s w) :=
  tr_simple (P := Tryz.prog) (codes := [(cd (Tryz.f58.body.getD .skip) [0]), (cd (Tryz.f58.body.getD .skip) [1, 0]), (cd (Tryz.f58.body.getD .skip) [1, 1, 0, 0]), (cd (Tryz.f58.body.getD .skip) [1, 1, 0, 1])]) (N := (fun s w => s58_p1 K (s 4) (s 5) w)) (N' := (s58_p1_den K)) (X := (fun i => (fun _ _ => False))) (X' := (fun i => (fun _ _ => False))) (R := s58_R K) (s := s) (w := w) (p := s58_p2 K (s 0) (s 1) w) (q := s58_p2_den K s w) (fun s w h => s58_p1_ok K s w @h) (fun i => tr_id) (by kernel_rfl) (by kernel_rfl) @h
/-- the call, from the text -/
theorem c58 (t0 t1 : Value) {K : Value → World → Prop} {w : World} (h : s58_p2 K t0 t1 w) : cl Tryz.prog 58 #[t0, t1] K w :=
  calls_of_tr (c := (Tryz.f58.body.getD .skip)) (fn := Tryz.f58) (q := s58_p2_den K (st0 #[t0, t1]) w) Tryz.func58 (by kernel_rfl) (by kernel_rfl) (Nat.le_of_ble_eq_true (by kernel_rfl)) (by kernel_rfl) (by kernel_rfl) (s58_p2_ok K (st0 #[t0, t1]) w @h)

/-! ### function 118 : (*e2e.engine.Engine).HandleBatch -/
def s118_R (K : Value → World → Prop) (s : Nat → Value) (w : World) : Prop := retv Tryz.prog s Tryz.f118.results.toList (fun vs => K (pack vs) w) w
def s118_p1 (K : Value → World → Prop) (t5 : Value) (w : World) : Prop :=
  K t5 w
def s118_p1_den (K : Value → World → Prop) : (Nat → Value) → World → Prop := denL Tryz.prog [(cd (Tryz.f118.body.getD .skip) [1, 1, 1, 1, 0]), (cd (Tryz.f118.body.getD .skip) [1, 1, 1, 1, 1])] (fun _ _ => False) (fun i => (fun _ _ => False)) (s118_R K)
theorem s118_p1_ok (K : Value → World → Prop) (s : Nat → Value) (w : World) (h : s118_p1 K (s 5) w) : Tr (s118_p1_den K s w) :=
  tr_simple (P := Tryz.prog) (codes := [(cd (Tryz.f118.body.getD .skip) [1, 1, 1, 1, 0]), (cd (Tryz.f118.body.getD .skip) [1, 1, 1, 1, 1])]) (N := (fun _ _ => False)) (N' := (fun _ _ => False)) (X := (fun i => (fun _ _ => False))) (X' := (fun i => (fun _ _ => False))) (R := s118_R K) (s := s) (w := w) (p := s118_p1 K (s 5) w) (q := s118_p1_den K s w) tr_id (fun i => tr_id) (by kernel_rfl) (by kernel_rfl) @h
def s118_p2 (K : Value → World → Prop) (B1 : List Value → World → Prop) (t5 t31 t32 : Value) (w : World) : Prop :=
  boI .lss t32 t31 (fun t33 w =>
  ifb t33
  (cl Tryz.prog 129 #[(.int .i64 19)] (fun t37 w =>
  cl Tryz.prog 59 #[t37] (fun t38 w =>
  ixs 1 t5 t32 (fun t39 w =>
  st1 t39 t38 (fun w =>
  boI .add t32 (.int .i64 1) (fun t40 w =>
  B1 [t5, t31, t40] w) w) w) w) w) w)
  (s118_p1 K t5 w)) w
def s118_p2_den (K : Value → World → Prop) (M1 : (Nat → Value) → World → Prop) : (Nat → Value) → World → Prop := denL Tryz.prog [(cd (Tryz.f118.body.getD .skip) [1, 1, 1, 0, 1, 0, 1, 0, 0, 0]), (cd (Tryz.f118.body.getD .skip) [1, 1, 1, 0, 1, 0, 1, 0, 0, 1, 0]), (cd (Tryz.f118.body.getD .skip) [1, 1, 1, 0, 1, 0, 1, 0, 0, 1, 1, 0]), (cd (Tryz.f118.body.getD .skip) [1, 1, 1, 0, 1, 0, 1, 0, 0, 1, 1, 1])] M1 (fun i => (bif Nat.beq i 2 then (s118_p1_den K) else (fun _ _ => False))) (s118_R K)
theorem s118_p2_ok (K : Value → World → Prop) (B1 : List Value → World → Prop) (s : Nat → Value) (w : World) (h : s118_p2 K B1 (s 5) (s 31) (s 32) w) : Tr (s118_p2_den K (fun s w => B1 [s 5, s 31, s 32] w) s w) :=
  tr_simple (P := Tryz.prog) (codes := [(cd (Tryz.f118.body.getD .skip) [1, 1, 1, 0, 1, 0, 1, 0, 0, 0]), (cd (Tryz.f118.body.getD .skip) [1, 1, 1, 0, 1, 0, 1, 0, 0, 1, 0]), (cd (Tryz.f118.body.getD .skip) [1, 1, 1, 0, 1, 0, 1, 0, 0, 1, 1, 0]), (cd (Tryz.f118.body.getD .skip) [1, 1, 1, 0, 1, 0, 1, 0, 0, 1, 1, 1])]) (N := (fun s w => B1 [s 5, s 31, s 32] w)) (N' := (fun s w => B1 [s 5, s 31, s 32] w)) (X := (fun i => (bif Nat.beq i 2 then (fun s w => s118_p1 K (s 5) w) else (fun _ _ => False)))) (X' := (fun i => (bif Nat.beq i 2 then (s118_p1_den K) else (fun _ _ => False)))) (R := s118_R K) (s := s) (w := w) (p := s118_p2 K B1 (s 5) (s 31) (s 32) w) (q := s118_p2_den K (fun s w => B1 [s 5, s 31, s 32] w) s w) tr_id (fun i => (tr_bif (fun s w h => s118_p1_ok K s w @h) tr_id)) (by kernel_rfl) (by kernel_rfl) @h
def s118_p3_F (K : Value → World → Prop) (B1 : List Value → World → Prop) (l : List Value) (w : World) : Prop :=
  match l with
  | [t5, t31, t32] => s118_p2 K B1 t5 t31 t32 w
  | _ => False
theorem s118_p3_Fe {K : Value → World → Prop} {B1 : List Value → World → Prop} {t5 t31 t32 : Value} {w : World} : s118_p3_F K B1 [t5, t31, t32] w = s118_p2 K B1 t5 t31 t32 w := by kernel_rfl
def s118_p3 (K : Value → World → Prop) (t5 t31 t32 : Value) (w : World) : Prop :=
  LoopL (s118_p3_F K) [t5, t31, t32] w
def s118_p3_den (K : Value → World → Prop) : (Nat → Value) → World → Prop := fun s w => LoopP (fun M1 s w => s118_p2_den K M1 s w) s w
theorem s118_p3_ok (K : Value → World → Prop) (s : Nat → Value) (w : World) (h : s118_p3 K (s 5) (s 31) (s 32) w) : Tr (s118_p3_den K s w) :=
  tr_loop (G := fun N' s w => s118_p2_den K N' s w) (F := s118_p3_F K) (sel := fun s => [s 5, s 31, s 32]) (s := s) (w := w) (p := s118_p3 K (s 5) (s 31) (s 32) w) (q := s118_p3_den K s w) (fun B s w h => s118_p2_ok K B s w @h) (by kernel_rfl) (by kernel_rfl) @h
def s118_p4 (K : Value → World → Prop) (t5 : Value) (w : World) : Prop :=
  lnS t5 (fun t31 w =>
  s118_p3 K t5 t31 (.int .i64 0) w) w
def s118_p4_den (K : Value → World → Prop) : (Nat → Value) → World → Prop := denL Tryz.prog [(cd (Tryz.f118.body.getD .skip) [1, 1, 1, 0, 1, 0, 0])] (s118_p3_den K) (fun i => (fun _ _ => False)) (s118_R K)
theorem s118_p4_ok (K : Value → World → Prop) (s : Nat → Value) (w : World) (h : s118_p4 K (s 5) w) : Tr (s118_p4_den K s w) :=
  tr_simple (P := Tryz.prog) (codes := [(cd (Tryz.f118.body.getD .skip) [1, 1, 1, 0, 1, 0, 0])]) (N := (fun s w => s118_p3 K (s 5) (s 31) (s 32) w)) (N' := (s118_p3_den K)) (X := (fun i => (fun _ _ => False))) (X' := (fun i => (fun _ _ => False))) (R := s118_R K) (s := s) (w := w) (p := s118_p4 K (s 5) w) (q := s118_p4_den K s w) (fun s w h => s118_p3_ok K s w @h) (fun i => tr_id) (by kernel_rfl) (by kernel_rfl) @h
def s118_p5 (K : Value → World → Prop) (t5 t29 : Value) (w : World) : Prop :=
  ifb t29
  (s118_p4 K t5 w)
  (s118_p1 K t5 w)
def s118_p5_den (K : Value → World → Prop) : (Nat → Value) → World → Prop := fun s w => ifb (ev s (.tmp 29)) ((s118_p4_den K) s w) ((s118_p1_den K) s w)
theorem s118_p5_ok (K : Value → World → Prop) (s : Nat → Value) (w : World) (h : s118_p5 K (s 5) (s 29) w) : Tr (s118_p5_den K s w) :=
  tr_cond (v := ev s (.tmp 29)) (a := (fun s w => s118_p4 K (s 5) w) s w) (a' := (s118_p4_den K) s w) (b := (fun s w => s118_p1 K (s 5) w) s w) (b' := (s118_p1_den K) s w) (p := s118_p5 K (s 5) (s 29) w) (q := s118_p5_den K s w) ((fun s w h => s118_p4_ok K s w @h) s w) ((fun s w h => s118_p1_ok K s w @h) s w) (by kernel_rfl) (by kernel_rfl) @h
def s118_p6 (K : Value → World → Prop) (t0 t5 : Value) (w : World) : Prop :=
  cl Tryz.prog 128 #[t0] (fun t28 w =>
  boI .neq t28 (.int .i64 0) (fun t29 w =>
  s118_p5 K t5 t29 w) w) w
def s118_p6_den (K : Value → World → Prop) : (Nat → Value) → World → Prop := denL Tryz.prog [(cd (Tryz.f118.body.getD .skip) [1, 1, 1, 0, 0])] (s118_p5_den K) (fun i => (fun _ _ => False)) (s118_R K)
theorem s118_p6_ok (K : Value → World → Prop) (s : Nat → Value) (w : World) (h : s118_p6 K (s 0) (s 5) w) : Tr (s118_p6_den K s w) :=
  tr_simple (P := Tryz.prog) (codes := [(cd (Tryz.f118.body.getD .skip) [1, 1, 1, 0, 0])]) (N := (fun s w => s118_p5 K (s 5) (s 29) w)) (N' := (s118_p5_den K)) (X := (fun i => (fun _ _ => False))) (X' := (fun i => (fun _ _ => False))) (R := s118_R K) (s := s) (w := w) (p := s118_p6 K (s 0) (s 5) w) (q := s118_p6_den K s w) (fun s w h => s118_p5_ok K s w @h) (fun i => tr_id) (by kernel_rfl) (by kernel_rfl) @h
def s118_p7 (K : Value → World → Prop) (B1 : List Value → World → Prop) (t0 t5 t12 t13 t14 : Value) (w : World) : Prop :=
  boI .lss t14 t13 (fun t15 w =>
  ifb t15
  (ixs 1 t12 t14 (fun t17 w =>
  ld1 t17 (fun t18 w =>
  cl Tryz.prog 127 #[t0, t18] (fun t23 w =>
  cl Tryz.prog 59 #[t23] (fun t24 w =>
  ixs 1 t5 t14 (fun t25 w =>
  st1 t25 t24 (fun w =>
  boI .add t14 (.int .i64 1) (fun t26 w =>
  B1 [t0, t5, t12, t13, t26] w) w) w) w) w) w) w) w)
  (s118_p6 K t0 t5 w)) w
def s118_p7_den (K : Value → World → Prop) (M1 : (Nat → Value) → World → Prop) : (Nat → Value) → World → Prop := denL Tryz.prog [(cd (Tryz.f118.body.getD .skip) [1, 1, 0, 1, 0, 0, 0]), (cd (Tryz.f118.body.getD .skip) [1, 1, 0, 1, 0, 0, 1, 0]), (cd (Tryz.f118.body.getD .skip) [1, 1, 0, 1, 0, 0, 1, 1, 0]), (cd (Tryz.f118.body.getD .skip) [1, 1, 0, 1, 0, 0, 1, 1, 1])] M1 (fun i => (bif Nat.beq i 0 then (s118_p6_den K) else (fun _ _ => False))) (s118_R K)
theorem s118_p7_ok (K : Value → World → Prop) (B1 : List Value → World → Prop) (s : Nat → Value) (w : World) (h : s118_p7 K B1 (s 0) (s 5) (s 12) (s 13) (s 14) w) : Tr (s118_p7_den K (fun s w => B1 [s 0, s 5, s 12, s 13, s 14] w) s w) :=
  tr_simple (P := Tryz.prog) (codes := [(cd (Tryz.f118.body.getD .skip) [1, 1, 0, 1, 0, 0, 0]), (cd (Tryz.f118.body.getD .skip) [1, 1, 0, 1, 0, 0, 1, 0]), (cd (Tryz.f118.body.getD .skip) [1, 1, 0, 1, 0, 0, 1, 1, 0]), (cd (Tryz.f118.body.getD .skip) [1, 1, 0, 1, 0, 0, 1, 1, 1])]) (N := (fun s w => B1 [s 0, s 5, s 12, s 13, s 14] w)) (N' := (fun s w => B1 [s 0, s 5, s 12, s 13, s 14] w)) (X := (fun i => (bif Nat.beq i 0 then (fun s w => s118_p6 K (s 0) (s 5) w) else (fun _ _ => False)))) (X' := (fun i => (bif Nat.beq i 0 then (s118_p6_den K) else (fun _ _ => False)))) (R := s118_R K) (s := s) (w := w) (p := s118_p7 K B1 (s 0) (s 5) (s 12) (s 13) (s 14) w) (q := s118_p7_den K (fun s w => B1 [s 0, s 5, s 12, s 13, s 14] w) s w) tr_id (fun i => (tr_bif (fun s w h => s118_p6_ok K s w @h) tr_id)) (by kernel_rfl) (by kernel_rfl) @h
def s118_p8_F (K : Value → World → Prop) (B1 : List Value → World → Prop) (l : List Value) (w : World) : Prop :=
  match l with
  | [t0, t5, t12, t13, t14] => s118_p7 K B1 t0 t5 t12 t13 t14 w
  | _ => False
theorem s118_p8_Fe {K : Value → World → Prop} {B1 : List Value → World → Prop} {t0 t5 t12 t13 t14 : Value} {w : World} : s118_p8_F K B1 [t0, t5, t12, t13, t14] w = s118_p7 K B1 t0 t5 t12 t13 t14 w := by kernel_rfl
def s118_p8 (K : Value → World → Prop) (t0 t5 t12 t13 t14 : Value) (w : World) : Prop :=
  LoopL (s118_p8_F K) [t0, t5, t12, t13, t14] w
def s118_p8_den (K : Value → World → Prop) : (Nat → Value) → World → Prop := fun s w => LoopP (fun M1 s w => s118_p7_den K M1 s w) s w
theorem s118_p8_ok (K : Value → World → Prop) (s : Nat → Value) (w : World) (h : s118_p8 K (s 0) (s 5) (s 12) (s 13) (s 14) w) : Tr (s118_p8_den K s w) :=
  tr_loop (G := fun N' s w => s118_p7_den K N' s w) (F := s118_p8_F K) (sel := fun s => [s 0, s 5, s 12, s 13, s 14]) (s := s) (w := w) (p := s118_p8 K (s 0) (s 5) (s 12) (s 13) (s 14) w) (q := s118_p8_den K s w) (fun B s w h => s118_p7_ok K B s w @h) (by kernel_rfl) (by kernel_rfl) @h
def s118_p9 (K : Value → World → Prop) (t0 t1 : Value) (w : World) : Prop :=
  lnS t1 (fun t10 w =>
  mks 37 [(.slice none 0 0)] 24 t10 t10 (fun t11 w =>
  lnS t1 (fun t13 w =>
  s118_p8 K t0 t11 t1 t13 (.int .i64 0) w) w) w) w
def s118_p9_den (K : Value → World → Prop) : (Nat → Value) → World → Prop := denL Tryz.prog [(cd (Tryz.f118.body.getD .skip) [0]), (cd (Tryz.f118.body.getD .skip) [1, 0]), (cd (Tryz.f118.body.getD .skip) [1, 1, 0, 0])] (s118_p8_den K) (fun i => (fun _ _ => False)) (s118_R K)
theorem s118_p9_ok (K : Value → World → Prop) (s : Nat → Value) (w : World) (h : s118_p9 K (s 0) (s 1) w) : Tr (s118_p9_den K s w) :=
  tr_simple (P := Tryz.prog) (codes := [(cd (Tryz.f118.body.getD .skip) [0]), (cd (Tryz.f118.body.getD .skip) [1, 0]), (cd (Tryz.f118.body.getD .skip) [1, 1, 0, 0])]) (N := (fun s w => s118_p8 K (s 0) (s 5) (s 12) (s 13) (s 14) w)) (N' := (s118_p8_den K)) (X := (fun i => (fun _ _ => False))) (X' := (fun i => (fun _ _ => False))) (R := s118_R K) (s := s) (w := w) (p := s118_p9 K (s 0) (s 1) w) (q := s118_p9_den K s w) (fun s w h => s118_p8_ok K s w @h) (fun i => tr_id) (by kernel_rfl) (by kernel_rfl) @h
/-- the call, from the text -/
theorem c118 (t0 t1 : Value) {K : Value → World → Prop} {w : World} (h : s118_p9 K t0 t1 w) : cl Tryz.prog 118 #[t0, t1] K w :=
  calls_of_tr (c := (Tryz.f118.body.getD .skip)) (fn := Tryz.f118) (q := s118_p9_den K (st0 #[t0, t1]) w) Tryz.func118 (by kernel_rfl) (by kernel_rfl) (Nat.le_of_ble_eq_true (by kernel_rfl)) (by kernel_rfl) (by kernel_rfl) (s118_p9_ok K (st0 #[t0, t1]) w @h)

/-! ### function 127 : (*e2e.engine.Engine).stageBytes -/
def s127_R (K : Value → World → Prop) (s : Nat → Value) (w : World) : Prop := retv Tryz.prog s Tryz.f127.results.toList (fun vs => K (pack vs) w) w
def s127_p1 (K : Value → World → Prop) (t0 t1 : Value) (w : World) : Prop :=
  nw 94 #[(.int .i64 0), (.int .u8 0), (.int .i64 0), (.int .i64 0), (.int .i64 0), (.int .i64 0), (.int .i64 0), (.slice none 0 0), (.int .i64 0), (.int .i64 0), (.int .i64 0), (.slice none 0 0), (.int .i64 0), (.int .i64 0), (.int .i64 0), (.int .i64 0), (.int .i64 0), (.int .i64 0), (.slice none 0 0), (.int .i64 0), (.int .i64 0), (.int .i64 0), (.int .i64 0), (.int .i64 0), (.int .i64 0), (.int .i64 0), (.int .i64 0), (.int .i64 0), (.int .i64 0), (.int .i64 0), (.int .i64 0), (.int .i64 0), (.int .i64 0), (.int .i64 0)] (fun t4 w =>
  nck t0 (fun t8 w =>
  fd 21 t8 (fun t9 w =>
  ld1 t9 (fun t10 w =>
  ifb t10
  (nck t0 (fun t12 w =>
  fd 22 t12 (fun t13 w =>
  fd 0 t13 (fun t14 w =>
  ld1 t14 (fun t15 w =>
  boI .add t15 (.int .i64 1) (fun t16 w =>
  nck t0 (fun t17 w =>
  fd 22 t17 (fun t18 w =>
  fd 0 t18 (fun t19 w =>
  st1 t19 t16 (fun w =>
  cl Tryz.prog 178 #[t0, (.int .i64 19)] (fun t21 w =>
  stn 34 t4 t21 (fun w =>
  ldn 34 t4 (fun r0 _ =>
  K r0 w) w) w) w) w) w) w) w) w) w) w) w) w)
  (cl Tryz.prog 28 #[t1] (fun t24 w =>
  exq t24 0 (fun t25 w =>
  exq t24 1 (fun t26 w =>
  nw 52 #[(.int .u8 0), (.int .i64 0), (.int .i64 0), (.int .i64 0), (.int .i64 0), (.int .i64 0), (.int .i64 0), (.slice none 0 0)] (fun t5 w =>
  stn 8 t5 t25 (fun w =>
  boI .neq t26 (.int .i64 0) (fun t28 w =>
  ifb t28
  (nck t0 (fun t30 w =>
  fd 22 t30 (fun t31 w =>
  fd 0 t31 (fun t32 w =>
  ld1 t32 (fun t33 w =>
  boI .add t33 (.int .i64 1) (fun t34 w =>
  nck t0 (fun t35 w =>
  fd 22 t35 (fun t36 w =>
  fd 0 t36 (fun t37 w =>
  st1 t37 t34 (fun w =>
  cl Tryz.prog 178 #[t0, t26] (fun t40 w =>
  stn 34 t4 t40 (fun w =>
  ldn 34 t4 (fun r0 _ =>
  K r0 w) w) w) w) w) w) w) w) w) w) w) w) w)
  (ldn 8 t5 (fun t42 w =>
  cl Tryz.prog 141 #[t0, t42] (fun t43 w =>
  stn 34 t4 t43 (fun w =>
  ldn 34 t4 (fun r0 _ =>
  K r0 w) w) w) w) w)) w) w) w) w) w) w)) w) w) w) w
def s127_p1_den (K : Value → World → Prop) : (Nat → Value) → World → Prop := denL Tryz.prog [(cd (Tryz.f127.body.getD .skip) [0]), (cd (Tryz.f127.body.getD .skip) [1, 0, 0]), (cd (Tryz.f127.body.getD .skip) [1, 0, 1]), (cd (Tryz.f127.body.getD .skip) [1, 1, 0]), (cd (Tryz.f127.body.getD .skip) [1, 1, 1, 0, 0]), (cd (Tryz.f127.body.getD .skip) [1, 1, 1, 0, 1]), (cd (Tryz.f127.body.getD .skip) [1, 1, 1, 1, 0]), (cd (Tryz.f127.body.getD .skip) [1, 1, 1, 1, 1])] (fun _ _ => False) (fun i => (fun _ _ => False)) (s127_R K)
theorem s127_p1_ok (K : Value → World → Prop) (s : Nat → Value) (w : World) (h : s127_p1 K (s 0) (s 1) w) : Tr (s127_p1_den K s w) :=
  tr_simple (P := Tryz.prog) (codes := [(cd (Tryz.f127.body.getD .skip) [0]), (cd (Tryz.f127.body.getD .skip) [1, 0, 0]), (cd (Tryz.f127.body.getD .skip) [1, 0, 1]), (cd (Tryz.f127.body.getD .skip) [1, 1, 0]), (cd (Tryz.f127.body.getD .skip) [1, 1, 1, 0, 0]), (cd (Tryz.f127.body.getD .skip) [1, 1, 1, 0, 1]), (cd (Tryz.f127.body.getD .skip) [1, 1, 1, 1, 0]), (cd (Tryz.f127.body.getD .skip) [1, 1, 1, 1, 1])]) (N := (fun _ _ => False)) (N' := (fun _ _ => False)) (X := (fun i => (fun _ _ => False))) (X' := (fun i => (fun _ _ => False))) (R := s127_R K) (s := s) (w := w) (p := s127_p1 K (s 0) (s 1) w) (q := s127_p1_den K s w) tr_id (fun i => tr_id) (by kernel_rfl) (by kernel_rfl) @h
/-- the call, from the text -/
theorem c127 (t0 t1 : Value) {K : Value → World → Prop} {w : World} (h : s127_p1 K t0 t1 w) : cl Tryz.prog 127 #[t0, t1] K w :=
  calls_of_tr (c := (Tryz.f127.body.getD .skip)) (fn := Tryz.f127) (q := s127_p1_den K (st0 #[t0, t1]) w) Tryz.func127 (by kernel_rfl) (by kernel_rfl) (Nat.le_of_ble_eq_true (by kernel_rfl)) (by kernel_rfl) (by kernel_rfl) (s127_p1_ok K (st0 #[t0, t1]) w @h)

/-! ### function 141 : (*e2e.engine.Engine).stage -/
def s141_R (K : Value → World → Prop) (s : Nat → Value) (w : World) : Prop := retv Tryz.prog s Tryz.f141.results.toList (fun vs => K (pack vs) w) w
def s141_p1 (K : Value → World → Prop) (t0 t1 : Value) (w : World) : Prop :=
  nw 52 (t1).cells (fun t3 w =>
  nw 94 #[(.int .i64 0), (.int .u8 0), (.int .i64 0), (.int .i64 0), (.int .i64 0), (.int .i64 0), (.int .i64 0), (.slice none 0 0), (.int .i64 0), (.int .i64 0), (.int .i64 0), (.slice none 0 0), (.int .i64 0), (.int .i64 0), (.int .i64 0), (.int .i64 0), (.int .i64 0), (.int .i64 0), (.slice none 0 0), (.int .i64 0), (.int .i64 0), (.int .i64 0), (.int .i64 0), (.int .i64 0), (.int .i64 0), (.int .i64 0), (.int .i64 0), (.int .i64 0), (.int .i64 0), (.int .i64 0), (.int .i64 0), (.int .i64 0), (.int .i64 0), (.int .i64 0)] (fun t4 w =>
  nck t0 (fun t7 w =>
  fd 22 t7 (fun t8 w =>
  fd 0 t8 (fun t9 w =>
  ld1 t9 (fun t10 w =>
  boI .add t10 (.int .i64 1) (fun t11 w =>
  nck t0 (fun t12 w =>
  fd 22 t12 (fun t13 w =>
  fd 0 t13 (fun t14 w =>
  st1 t14 t11 (fun w =>
  nck t0 (fun t16 w =>
  fd 21 t16 (fun t17 w =>
  ld1 t17 (fun t18 w =>
  ifb t18
  (cl Tryz.prog 178 #[t0, (.int .i64 19)] (fun t20 w =>
  stn 34 t4 t20 (fun w =>
  ldn 34 t4 (fun r0 _ =>
  K r0 w) w) w) w)
  (ldn 8 t3 (fun t21 w =>
  cl Tryz.prog 183 #[t21] (fun t22 w =>
  un .not t22 (fun t23 w =>
  ifb t23
  (cl Tryz.prog 178 #[t0, (.int .i64 1)] (fun t25 w =>
  stn 34 t4 t25 (fun w =>
  ldn 34 t4 (fun r0 _ =>
  K r0 w) w) w) w)
  (ldn 8 t3 (fun t27 w =>
  cl Tryz.prog 176 #[t0, t27] (fun t28 w =>
  boI .neq t28 (.int .i64 0) (fun t30 w =>
  ifb t30
  (cl Tryz.prog 178 #[t0, t28] (fun t33 w =>
  stn 34 t4 t33 (fun w =>
  ldn 34 t4 (fun r0 _ =>
  K r0 w) w) w) w)
  (fd 0 t3 (fun t34 w =>
  ld1 t34 (fun t35 w =>
  cl Tryz.prog 184 #[t35] (fun t36 w =>
  ifb t36
  (ldn 8 t3 (fun t38 w =>
  cl Tryz.prog 185 #[t0, t38] (fun t39 w =>
  stn 34 t4 t39 (fun w =>
  ldn 34 t4 (fun r0 _ =>
  K r0 w) w) w) w) w)
  (ldn 8 t3 (fun t41 w =>
  cl Tryz.prog 186 #[t0, t41] (fun t42 w =>
  stn 34 t4 t42 (fun w =>
  ldn 34 t4 (fun r0 _ =>
  K r0 w) w) w) w) w)) w) w) w)) w) w) w)) w) w) w)) w) w) w) w) w) w) w) w) w) w) w) w) w) w
def s141_p1_den (K : Value → World → Prop) : (Nat → Value) → World → Prop := denL Tryz.prog [(cd (Tryz.f141.body.getD .skip) [0]), (cd (Tryz.f141.body.getD .skip) [1, 0]), (cd (Tryz.f141.body.getD .skip) [1, 1, 0, 0]), (cd (Tryz.f141.body.getD .skip) [1, 1, 0, 1]), (cd (Tryz.f141.body.getD .skip) [1, 1, 1, 0, 0]), (cd (Tryz.f141.body.getD .skip) [1, 1, 1, 0, 1]), (cd (Tryz.f141.body.getD .skip) [1, 1, 1, 1, 0, 0]), (cd (Tryz.f141.body.getD .skip) [1, 1, 1, 1, 0, 1, 0]), (cd (Tryz.f141.body.getD .skip) [1, 1, 1, 1, 0, 1, 1]), (cd (Tryz.f141.body.getD .skip) [1, 1, 1, 1, 1, 0, 0]), (cd (Tryz.f141.body.getD .skip) [1, 1, 1, 1, 1, 0, 1]), (cd (Tryz.f141.body.getD .skip) [1, 1, 1, 1, 1, 1, 0]), (cd (Tryz.f141.body.getD .skip) [1, 1, 1, 1, 1, 1, 1])] (fun _ _ => False) (fun i => (fun _ _ => False)) (s141_R K)
theorem s141_p1_ok (K : Value → World → Prop) (s : Nat → Value) (w : World) (h : s141_p1 K (s 0) (s 1) w) : Tr (s141_p1_den K s w) :=
  tr_simple (P := Tryz.prog) (codes := [(cd (Tryz.f141.body.getD .skip) [0]), (cd (Tryz.f141.body.getD .skip) [1, 0]), (cd (Tryz.f141.body.getD .skip) [1, 1, 0, 0]), (cd (Tryz.f141.body.getD .skip) [1, 1, 0, 1]), (cd (Tryz.f141.body.getD .skip) [1, 1, 1, 0, 0]), (cd (Tryz.f141.body.getD .skip) [1, 1, 1, 0, 1]), (cd (Tryz.f141.body.getD .skip) [1, 1, 1, 1, 0, 0]), (cd (Tryz.f141.body.getD .skip) [1, 1, 1, 1, 0, 1, 0]), (cd (Tryz.f141.body.getD .skip) [1, 1, 1, 1, 0, 1, 1]), (cd (Tryz.f141.body.getD .skip) [1, 1, 1, 1, 1, 0, 0]), (cd (Tryz.f141.body.getD .skip) [1, 1, 1, 1, 1, 0, 1]), (cd (Tryz.f141.body.getD .skip) [1, 1, 1, 1, 1, 1, 0]), (cd (Tryz.f141.body.getD .skip) [1, 1, 1, 1, 1, 1, 1])]) (N := (fun _ _ => False)) (N' := (fun _ _ => False)) (X := (fun i => (fun _ _ => False))) (X' := (fun i => (fun _ _ => False))) (R := s141_R K) (s := s) (w := w) (p := s141_p1 K (s 0) (s 1) w) (q := s141_p1_den K s w) tr_id (fun i => tr_id) (by kernel_rfl) (by kernel_rfl) @h
/-- the call, from the text -/
theorem c141 (t0 t1 : Value) {K : Value → World → Prop} {w : World} (h : s141_p1 K t0 t1 w) : cl Tryz.prog 141 #[t0, t1] K w :=
  calls_of_tr (c := (Tryz.f141.body.getD .skip)) (fn := Tryz.f141) (q := s141_p1_den K (st0 #[t0, t1]) w) Tryz.func141 (by kernel_rfl) (by kernel_rfl) (Nat.le_of_ble_eq_true (by kernel_rfl)) (by kernel_rfl) (by kernel_rfl) (s141_p1_ok K (st0 #[t0, t1]) w @h)

/-! ### function 178 : (*e2e.engine.Engine).refuse -/
def s178_R (K : Value → World → Prop) (s : Nat → Value) (w : World) : Prop := retv Tryz.prog s Tryz.f178.results.toList (fun vs => K (pack vs) w) w
def s178_p1 (K : Value → World → Prop) (t1 t4 : Value) (w : World) : Prop :=
  cl Tryz.prog 129 #[t1] (fun t24 w =>
  stn 34 t4 t24 (fun w =>
  ldn 34 t4 (fun r0 _ =>
  K r0 w) w) w) w
def s178_p1_den (K : Value → World → Prop) : (Nat → Value) → World → Prop := denL Tryz.prog [(cd (Tryz.f178.body.getD .skip) [1, 1, 0]), (cd (Tryz.f178.body.getD .skip) [1, 1, 1])] (fun _ _ => False) (fun i => (fun _ _ => False)) (s178_R K)
theorem s178_p1_ok (K : Value → World → Prop) (s : Nat → Value) (w : World) (h : s178_p1 K (s 1) (s 4) w) : Tr (s178_p1_den K s w) :=
  tr_simple (P := Tryz.prog) (codes := [(cd (Tryz.f178.body.getD .skip) [1, 1, 0]), (cd (Tryz.f178.body.getD .skip) [1, 1, 1])]) (N := (fun _ _ => False)) (N' := (fun _ _ => False)) (X := (fun i => (fun _ _ => False))) (X' := (fun i => (fun _ _ => False))) (R := s178_R K) (s := s) (w := w) (p := s178_p1 K (s 1) (s 4) w) (q := s178_p1_den K s w) tr_id (fun i => tr_id) (by kernel_rfl) (by kernel_rfl) @h
def s178_p2_d (K : Value → World → Prop) (t0 t1 t4 : Value) (w0 w : World) : Prop :=
  nck t0 (fun t13 _ =>
  fd 22 t13 (fun t14 _ =>
  fd 6 t14 (fun t15 _ =>
  ixa 23 1 t15 t1 (fun t16 _ =>
  ld1 t16 (fun t17 _ =>
  boI .add t17 (.int .i64 1) (fun t18 _ =>
  nck t0 (fun t19 _ =>
  fd 22 t19 (fun t20 _ =>
  fd 6 t20 (fun t21 _ =>
  ixa 23 1 t21 t1 (fun t22 _ =>
  st1 t22 t18 (fun w =>
  s178_p1 K t1 t4 w) w) w0) w0) w0) w0) w0) w0) w0) w0) w0) w0
def s178_p2 (K : Value → World → Prop) (t0 t1 t4 : Value) (w : World) : Prop := s178_p2_d K t0 t1 t4 (drw w) (drw w)
def s178_p2_den (K : Value → World → Prop) : (Nat → Value) → World → Prop := denL Tryz.prog [(cd (Tryz.f178.body.getD .skip) [1, 0, 1, 0])] (s178_p1_den K) (fun i => (fun _ _ => False)) (s178_R K)
theorem s178_p2_ok (K : Value → World → Prop) (s : Nat → Value) (w : World) (h : s178_p2 K (s 0) (s 1) (s 4) w) : Tr (s178_p2_den K s w) :=
  tr_draw (P := Tryz.prog) (ops := (ro (cd (Tryz.f178.body.getD .skip) [1, 0, 1, 0]))) (ms := [0, 0, 1, 5, 13, 31, 63, 127, 1, 257, 769, 2047, 4095]) (cs := [0, 1, 2, 3, 4, 5, 6, 7, 8, 9, 10, 11]) (N := (fun s w => s178_p1 K (s 1) (s 4) w)) (N' := (s178_p1_den K)) (s := s) (w := w) (p := s178_p2 K (s 0) (s 1) (s 4) w) (q := s178_p2_den K s w) (by kernel_rfl) (by kernel_rfl) (fun s w h => s178_p1_ok K s w @h) (by kernel_rfl) (by kernel_rfl) @h
def s178_p3 (K : Value → World → Prop) (t0 t1 t4 t10 : Value) (w : World) : Prop :=
  ifb t10
  (s178_p2 K t0 t1 t4 w)
  (s178_p1 K t1 t4 w)
def s178_p3_den (K : Value → World → Prop) : (Nat → Value) → World → Prop := fun s w => ifb (ev s (.tmp 10)) ((s178_p2_den K) s w) ((s178_p1_den K) s w)
theorem s178_p3_ok (K : Value → World → Prop) (s : Nat → Value) (w : World) (h : s178_p3 K (s 0) (s 1) (s 4) (s 10) w) : Tr (s178_p3_den K s w) :=
  tr_cond (v := ev s (.tmp 10)) (a := (fun s w => s178_p2 K (s 0) (s 1) (s 4) w) s w) (a' := (s178_p2_den K) s w) (b := (fun s w => s178_p1 K (s 1) (s 4) w) s w) (b' := (s178_p1_den K) s w) (p := s178_p3 K (s 0) (s 1) (s 4) (s 10) w) (q := s178_p3_den K s w) ((fun s w h => s178_p2_ok K s w @h) s w) ((fun s w h => s178_p1_ok K s w @h) s w) (by kernel_rfl) (by kernel_rfl) @h
def s178_p4 (K : Value → World → Prop) (t0 t1 : Value) (w : World) : Prop :=
  nw 94 #[(.int .i64 0), (.int .u8 0), (.int .i64 0), (.int .i64 0), (.int .i64 0), (.int .i64 0), (.int .i64 0), (.slice none 0 0), (.int .i64 0), (.int .i64 0), (.int .i64 0), (.slice none 0 0), (.int .i64 0), (.int .i64 0), (.int .i64 0), (.int .i64 0), (.int .i64 0), (.int .i64 0), (.slice none 0 0), (.int .i64 0), (.int .i64 0), (.int .i64 0), (.int .i64 0), (.int .i64 0), (.int .i64 0), (.int .i64 0), (.int .i64 0), (.int .i64 0), (.int .i64 0), (.int .i64 0), (.int .i64 0), (.int .i64 0), (.int .i64 0), (.int .i64 0)] (fun t4 w =>
  boI .gtr t1 (.int .i64 0) (fun t6 w =>
  gd t6 true (fun K w => K t1 w) (fun t8 w =>
  gd t6 true (boI .lss t8 (.int .i64 23)) (fun t9 w =>
  pk t6 t9 (.bool false) (fun t10 w =>
  s178_p3 K t0 t1 t4 t10 w) w) w) w) w) w
def s178_p4_den (K : Value → World → Prop) : (Nat → Value) → World → Prop := denL Tryz.prog [(cd (Tryz.f178.body.getD .skip) [0]), (cd (Tryz.f178.body.getD .skip) [1, 0, 0])] (s178_p3_den K) (fun i => (fun _ _ => False)) (s178_R K)
theorem s178_p4_ok (K : Value → World → Prop) (s : Nat → Value) (w : World) (h : s178_p4 K (s 0) (s 1) w) : Tr (s178_p4_den K s w) :=
  tr_simple (P := Tryz.prog) (codes := [(cd (Tryz.f178.body.getD .skip) [0]), (cd (Tryz.f178.body.getD .skip) [1, 0, 0])]) (N := (fun s w => s178_p3 K (s 0) (s 1) (s 4) (s 10) w)) (N' := (s178_p3_den K)) (X := (fun i => (fun _ _ => False))) (X' := (fun i => (fun _ _ => False))) (R := s178_R K) (s := s) (w := w) (p := s178_p4 K (s 0) (s 1) w) (q := s178_p4_den K s w) (fun s w h => s178_p3_ok K s w @h) (fun i => tr_id) (by kernel_rfl) (by kernel_rfl) @h
/-- the call, from the text -/
theorem c178 (t0 t1 : Value) {K : Value → World → Prop} {w : World} (h : s178_p4 K t0 t1 w) : cl Tryz.prog 178 #[t0, t1] K w :=
  calls_of_tr (c := (Tryz.f178.body.getD .skip)) (fn := Tryz.f178) (q := s178_p4_den K (st0 #[t0, t1]) w) Tryz.func178 (by kernel_rfl) (by kernel_rfl) (Nat.le_of_ble_eq_true (by kernel_rfl)) (by kernel_rfl) (by kernel_rfl) (s178_p4_ok K (st0 #[t0, t1]) w @h)

/-! ### function 186 : (*e2e.engine.Engine).change -/
def s186_R (K : Value → World → Prop) (s : Nat → Value) (w : World) : Prop := retv Tryz.prog s Tryz.f186.results.toList (fun vs => K (pack vs) w) w
def s186_p1 (K : Value → World → Prop) (t0 t3 t4 : Value) (w : World) : Prop :=
  nck t0 (fun t25 w =>
  fd 51 t25 (fun t26 w =>
  ld1 t26 (fun t27 w =>
  lnS t27 (fun t28 w =>
  cl Tryz.prog 225 #[t0, t28] (fun t29 w =>
  boI .neq t29 (.int .i64 0) (fun t31 w =>
  ifb t31
  (cl Tryz.prog 178 #[t0, t29] (fun t34 w =>
  stn 34 t4 t34 (fun w =>
  ldn 34 t4 (fun r0 _ =>
  K r0 w) w) w) w)
  (ldn 8 t3 (fun t36 w =>
  cl Tryz.prog 177 #[t0, t36] (fun t37 w =>
  nw 94 #[(.int .i64 0), (.int .u8 0), (.int .i64 0), (.int .i64 0), (.int .i64 0), (.int .i64 0), (.int .i64 0), (.slice none 0 0), (.int .i64 0), (.int .i64 0), (.int .i64 0), (.slice none 0 0), (.int .i64 0), (.int .i64 0), (.int .i64 0), (.int .i64 0), (.int .i64 0), (.int .i64 0), (.slice none 0 0), (.int .i64 0), (.int .i64 0), (.int .i64 0), (.int .i64 0), (.int .i64 0), (.int .i64 0), (.int .i64 0), (.int .i64 0), (.int .i64 0), (.int .i64 0), (.int .i64 0), (.int .i64 0), (.int .i64 0), (.int .i64 0), (.int .i64 0)] (fun t6 w =>
  stn 34 t6 t37 (fun w =>
  fd 0 t6 (fun t38 w =>
  ld1 t38 (fun t39 w =>
  boI .neq t39 (.int .i64 0) (fun t40 w =>
  ifb t40
  (fd 0 t6 (fun t42 w =>
  ld1 t42 (fun t43 w =>
  cl Tryz.prog 178 #[t0, t43] (fun t44 w =>
  stn 34 t4 t44 (fun w =>
  ldn 34 t4 (fun r0 _ =>
  K r0 w) w) w) w) w) w)
  (nck t0 (fun t47 w =>
  fd 51 t47 (fun t48 w =>
  ld1 t48 (fun t49 w =>
  cl Tryz.prog 226 #[t0, t49] (fun t50 w =>
  boI .neq t50 (.int .i64 0) (fun t52 w =>
  ifb t52
  (cl Tryz.prog 178 #[t0, t50] (fun t55 w =>
  stn 34 t4 t55 (fun w =>
  ldn 34 t4 (fun r0 _ =>
  K r0 w) w) w) w)
  (nck t0 (fun t57 w =>
  fd 22 t57 (fun t58 w =>
  fd 2 t58 (fun t59 w =>
  ld1 t59 (fun t60 w =>
  boI .add t60 (.int .i64 1) (fun t61 w =>
  nck t0 (fun t62 w =>
  fd 22 t62 (fun t63 w =>
  fd 2 t63 (fun t64 w =>
  st1 t64 t61 (fun w =>
  ldn 34 t6 (fun t65 w =>
  stn 34 t4 t65 (fun w =>
  ldn 34 t4 (fun r0 _ =>
  K r0 w) w) w) w) w) w) w) w) w) w) w) w) w)) w) w) w) w) w)) w) w) w) w) w) w) w)) w) w) w) w) w) w
def s186_p1_den (K : Value → World → Prop) : (Nat → Value) → World → Prop := denL Tryz.prog [(cd (Tryz.f186.body.getD .skip) [1, 1, 0, 0]), (cd (Tryz.f186.body.getD .skip) [1, 1, 0, 1, 0]), (cd (Tryz.f186.body.getD .skip) [1, 1, 0, 1, 1]), (cd (Tryz.f186.body.getD .skip) [1, 1, 1, 0]), (cd (Tryz.f186.body.getD .skip) [1, 1, 1, 1, 0, 0]), (cd (Tryz.f186.body.getD .skip) [1, 1, 1, 1, 0, 1]), (cd (Tryz.f186.body.getD .skip) [1, 1, 1, 1, 1, 0, 0]), (cd (Tryz.f186.body.getD .skip) [1, 1, 1, 1, 1, 0, 1, 0]), (cd (Tryz.f186.body.getD .skip) [1, 1, 1, 1, 1, 0, 1, 1]), (cd (Tryz.f186.body.getD .skip) [1, 1, 1, 1, 1, 1, 0]), (cd (Tryz.f186.body.getD .skip) [1, 1, 1, 1, 1, 1, 1, 0]), (cd (Tryz.f186.body.getD .skip) [1, 1, 1, 1, 1, 1, 1, 1])] (fun _ _ => False) (fun i => (fun _ _ => False)) (s186_R K)
theorem s186_p1_ok (K : Value → World → Prop) (s : Nat → Value) (w : World) (h : s186_p1 K (s 0) (s 3) (s 4) w) : Tr (s186_p1_den K s w) :=
  tr_simple (P := Tryz.prog) (codes := [(cd (Tryz.f186.body.getD .skip) [1, 1, 0, 0]), (cd (Tryz.f186.body.getD .skip) [1, 1, 0, 1, 0]), (cd (Tryz.f186.body.getD .skip) [1, 1, 0, 1, 1]), (cd (Tryz.f186.body.getD .skip) [1, 1, 1, 0]), (cd (Tryz.f186.body.getD .skip) [1, 1, 1, 1, 0, 0]), (cd (Tryz.f186.body.getD .skip) [1, 1, 1, 1, 0, 1]), (cd (Tryz.f186.body.getD .skip) [1, 1, 1, 1, 1, 0, 0]), (cd (Tryz.f186.body.getD .skip) [1, 1, 1, 1, 1, 0, 1, 0]), (cd (Tryz.f186.body.getD .skip) [1, 1, 1, 1, 1, 0, 1, 1]), (cd (Tryz.f186.body.getD .skip) [1, 1, 1, 1, 1, 1, 0]), (cd (Tryz.f186.body.getD .skip) [1, 1, 1, 1, 1, 1, 1, 0]), (cd (Tryz.f186.body.getD .skip) [1, 1, 1, 1, 1, 1, 1, 1])]) (N := (fun _ _ => False)) (N' := (fun _ _ => False)) (X := (fun i => (fun _ _ => False))) (X' := (fun i => (fun _ _ => False))) (R := s186_R K) (s := s) (w := w) (p := s186_p1 K (s 0) (s 3) (s 4) w) (q := s186_p1_den K s w) tr_id (fun i => tr_id) (by kernel_rfl) (by kernel_rfl) @h
def s186_p2_d (K : Value → World → Prop) (t0 t3 t4 : Value) (w0 w : World) : Prop :=
  nck t0 (fun t10 _ =>
  fd 51 t10 (fun t11 _ =>
  ld1 t11 (fun t12 _ =>
  sls 1 t12 none (some (.int .i64 0)) (fun t13 _ =>
  nck t0 (fun t15 _ =>
  fd 18 t15 (fun t16 _ =>
  ld1 t16 (fun t17 _ =>
  boI .add t17 (.int .i64 1) (fun t18 _ =>
  ldn 8 t3 (fun t19 _ =>
  nck t0 (fun t21 _ =>
  fd 51 t21 (fun t22 _ =>
  cl Tryz.prog 224 #[t13, t18, t19] (fun t20 w =>
  st1 t22 t20 (fun w =>
  s186_p1 K t0 t3 t4 w) w) w) w0) w0) w0) w0) w0) w0) w0) w0) w0) w0) w0
def s186_p2 (K : Value → World → Prop) (t0 t3 t4 : Value) (w : World) : Prop := s186_p2_d K t0 t3 t4 (drw w) (drw w)
def s186_p2_den (K : Value → World → Prop) : (Nat → Value) → World → Prop := denL Tryz.prog [(cd (Tryz.f186.body.getD .skip) [1, 0])] (s186_p1_den K) (fun i => (fun _ _ => False)) (s186_R K)
theorem s186_p2_ok (K : Value → World → Prop) (s : Nat → Value) (w : World) (h : s186_p2 K (s 0) (s 3) (s 4) w) : Tr (s186_p2_den K s w) :=
  tr_draw (P := Tryz.prog) (ops := (ro (cd (Tryz.f186.body.getD .skip) [1, 0]))) (ms := [0, 0, 2, 6, 14, 30, 0, 64, 192, 448, 960, 0, 4094, 8191, 16383, 32767]) (cs := [0, 1, 2, 3, 4, 5, 6, 7, 8, 9, 10, 11, 13, 14]) (N := (fun s w => s186_p1 K (s 0) (s 3) (s 4) w)) (N' := (s186_p1_den K)) (s := s) (w := w) (p := s186_p2 K (s 0) (s 3) (s 4) w) (q := s186_p2_den K s w) (by kernel_rfl) (by kernel_rfl) (fun s w h => s186_p1_ok K s w @h) (by kernel_rfl) (by kernel_rfl) @h
def s186_p3 (K : Value → World → Prop) (t0 t1 : Value) (w : World) : Prop :=
  nw 52 (t1).cells (fun t3 w =>
  nw 94 #[(.int .i64 0), (.int .u8 0), (.int .i64 0), (.int .i64 0), (.int .i64 0), (.int .i64 0), (.int .i64 0), (.slice none 0 0), (.int .i64 0), (.int .i64 0), (.int .i64 0), (.slice none 0 0), (.int .i64 0), (.int .i64 0), (.int .i64 0), (.int .i64 0), (.int .i64 0), (.int .i64 0), (.slice none 0 0), (.int .i64 0), (.int .i64 0), (.int .i64 0), (.int .i64 0), (.int .i64 0), (.int .i64 0), (.int .i64 0), (.int .i64 0), (.int .i64 0), (.int .i64 0), (.int .i64 0), (.int .i64 0), (.int .i64 0), (.int .i64 0), (.int .i64 0)] (fun t4 w =>
  s186_p2 K t0 t3 t4 w) w) w
def s186_p3_den (K : Value → World → Prop) : (Nat → Value) → World → Prop := denL Tryz.prog [(cd (Tryz.f186.body.getD .skip) [0])] (s186_p2_den K) (fun i => (fun _ _ => False)) (s186_R K)
theorem s186_p3_ok (K : Value → World → Prop) (s : Nat → Value) (w : World) (h : s186_p3 K (s 0) (s 1) w) : Tr (s186_p3_den K s w) :=
  tr_simple (P := Tryz.prog) (codes := [(cd (Tryz.f186.body.getD .skip) [0])]) (N := (fun s w => s186_p2 K (s 0) (s 3) (s 4) w)) (N' := (s186_p2_den K)) (X := (fun i => (fun _ _ => False))) (X' := (fun i => (fun _ _ => False))) (R := s186_R K) (s := s) (w := w) (p := s186_p3 K (s 0) (s 1) w) (q := s186_p3_den K s w) (fun s w h => s186_p2_ok K s w @h) (fun i => tr_id) (by kernel_rfl) (by kernel_rfl) @h
/-- the call, from the text -/
theorem c186 (t0 t1 : Value) {K : Value → World → Prop} {w : World} (h : s186_p3 K t0 t1 w) : cl Tryz.prog 186 #[t0, t1] K w :=
  calls_of_tr (c := (Tryz.f186.body.getD .skip)) (fn := Tryz.f186) (q := s186_p3_den K (st0 #[t0, t1]) w) Tryz.func186 (by kernel_rfl) (by kernel_rfl) (Nat.le_of_ble_eq_true (by kernel_rfl)) (by kernel_rfl) (by kernel_rfl) (s186_p3_ok K (st0 #[t0, t1]) w @h)

/-! ### function 60 : (*e2e.engine.Engine).Checkpoint -/
def s60_R (K : Value → World → Prop) (s : Nat → Value) (w : World) : Prop := retv Tryz.prog s Tryz.f60.results.toList (fun vs => K (pack vs) w) w
def s60_p1 (K : Value → World → Prop) (t0 : Value) (w : World) : Prop :=
  nck t0 (fun t5 w =>
  fd 21 t5 (fun t6 w =>
  ld1 t6 (fun t7 w =>
  ifb t7
  (bdq [(.int .i64 0), (.string ⟨#[]⟩)] [(some (0, 1), (.int .i64 19)), (some (1, 1), (.string ⟨#[99, 104, 101, 99, 107, 112, 111, 105, 110, 116]⟩))] (fun t8 w =>
  nw 157 (t8).cells (fun t9 w =>
  K (.iface 155 t9) w) w) w)
  (cl Tryz.prog 143 #[t0] (fun t12 w =>
  boI .neq t12 (.int .i64 0) (fun t14 w =>
  ifb t14
  (bdq [(.int .i64 0), (.string ⟨#[]⟩)] [(some (0, 1), t12), (some (1, 1), (.string ⟨#[99, 104, 101, 99, 107, 112, 111, 105, 110, 116]⟩))] (fun t16 w =>
  nw 157 (t16).cells (fun t17 w =>
  K (.iface 155 t17) w) w) w)
  (K .nilIface w)) w) w)) w) w) w
def s60_p1_den (K : Value → World → Prop) : (Nat → Value) → World → Prop := denL Tryz.prog [(cd (Tryz.f60.body.getD .skip) [0]), (cd (Tryz.f60.body.getD .skip) [1, 0, 0]), (cd (Tryz.f60.body.getD .skip) [1, 0, 1]), (cd (Tryz.f60.body.getD .skip) [1, 1, 0, 0]), (cd (Tryz.f60.body.getD .skip) [1, 1, 0, 1, 0]), (cd (Tryz.f60.body.getD .skip) [1, 1, 0, 1, 1]), (cd (Tryz.f60.body.getD .skip) [1, 1, 1, 0]), (cd (Tryz.f60.body.getD .skip) [1, 1, 1, 1])] (fun _ _ => False) (fun i => (fun _ _ => False)) (s60_R K)
theorem s60_p1_ok (K : Value → World → Prop) (s : Nat → Value) (w : World) (h : s60_p1 K (s 0) w) : Tr (s60_p1_den K s w) :=
  tr_simple (P := Tryz.prog) (codes := [(cd (Tryz.f60.body.getD .skip) [0]), (cd (Tryz.f60.body.getD .skip) [1, 0, 0]), (cd (Tryz.f60.body.getD .skip) [1, 0, 1]), (cd (Tryz.f60.body.getD .skip) [1, 1, 0, 0]), (cd (Tryz.f60.body.getD .skip) [1, 1, 0, 1, 0]), (cd (Tryz.f60.body.getD .skip) [1, 1, 0, 1, 1]), (cd (Tryz.f60.body.getD .skip) [1, 1, 1, 0]), (cd (Tryz.f60.body.getD .skip) [1, 1, 1, 1])]) (N := (fun _ _ => False)) (N' := (fun _ _ => False)) (X := (fun i => (fun _ _ => False))) (X' := (fun i => (fun _ _ => False))) (R := s60_R K) (s := s) (w := w) (p := s60_p1 K (s 0) w) (q := s60_p1_den K s w) tr_id (fun i => tr_id) (by kernel_rfl) (by kernel_rfl) @h
/-- the call, from the text -/
theorem c60 (t0 : Value) {K : Value → World → Prop} {w : World} (h : s60_p1 K t0 w) : cl Tryz.prog 60 #[t0] K w :=
  calls_of_tr (c := (Tryz.f60.body.getD .skip)) (fn := Tryz.f60) (q := s60_p1_den K (st0 #[t0]) w) Tryz.func60 (by kernel_rfl) (by kernel_rfl) (Nat.le_of_ble_eq_true (by kernel_rfl)) (by kernel_rfl) (by kernel_rfl) (s60_p1_ok K (st0 #[t0]) w @h)

/-! ### function 225 : (*e2e.engine.Engine).makeRoom -/
def s225_R (K : Value → World → Prop) (s : Nat → Value) (w : World) : Prop := retv Tryz.prog s Tryz.f225.results.toList (fun vs => K (pack vs) w) w
def s225_p1 (K : Value → World → Prop) (t0 t1 : Value) (w : World) : Prop :=
  nck t0 (fun t8 w =>
  fd 17 t8 (fun t9 w =>
  ld1 t9 (fun t10 w =>
  cl Tryz.prog 48 #[t10] (fun t11 w =>
  boI .leq t1 t11 (fun t12 w =>
  ifb t12
  (K (.int .i64 0) w)
  (nck t0 (fun t14 w =>
  fd 19 t14 (fun t15 w =>
  ld1 t15 (fun t16 w =>
  boI .eql t16 (.int .i64 0) (fun t17 w =>
  ifb t17
  (K (.int .i64 17) w)
  (cl Tryz.prog 143 #[t0] (fun t19 w =>
  boI .neq t19 (.int .i64 0) (fun t21 w =>
  ifb t21
  (K t19 w)
  (nck t0 (fun t25 w =>
  fd 17 t25 (fun t26 w =>
  ld1 t26 (fun t27 w =>
  cl Tryz.prog 48 #[t27] (fun t28 w =>
  boI .gtr t1 t28 (fun t29 w =>
  ifb t29
  (K (.int .i64 17) w)
  (K (.int .i64 0) w)) w) w) w) w) w)) w) w)) w) w) w) w)) w) w) w) w) w
def s225_p1_den (K : Value → World → Prop) : (Nat → Value) → World → Prop := denL Tryz.prog [(cd (Tryz.f225.body.getD .skip) [0]), (cd (Tryz.f225.body.getD .skip) [1, 0, 0]), (cd (Tryz.f225.body.getD .skip) [1, 0, 1]), (cd (Tryz.f225.body.getD .skip) [1, 1, 0, 0]), (cd (Tryz.f225.body.getD .skip) [1, 1, 0, 1]), (cd (Tryz.f225.body.getD .skip) [1, 1, 1, 0, 0]), (cd (Tryz.f225.body.getD .skip) [1, 1, 1, 0, 1, 0]), (cd (Tryz.f225.body.getD .skip) [1, 1, 1, 0, 1, 1]), (cd (Tryz.f225.body.getD .skip) [1, 1, 1, 1, 0, 0]), (cd (Tryz.f225.body.getD .skip) [1, 1, 1, 1, 0, 1]), (cd (Tryz.f225.body.getD .skip) [1, 1, 1, 1, 1, 0]), (cd (Tryz.f225.body.getD .skip) [1, 1, 1, 1, 1, 1])] (fun _ _ => False) (fun i => (fun _ _ => False)) (s225_R K)
theorem s225_p1_ok (K : Value → World → Prop) (s : Nat → Value) (w : World) (h : s225_p1 K (s 0) (s 1) w) : Tr (s225_p1_den K s w) :=
  tr_simple (P := Tryz.prog) (codes := [(cd (Tryz.f225.body.getD .skip) [0]), (cd (Tryz.f225.body.getD .skip) [1, 0, 0]), (cd (Tryz.f225.body.getD .skip) [1, 0, 1]), (cd (Tryz.f225.body.getD .skip) [1, 1, 0, 0]), (cd (Tryz.f225.body.getD .skip) [1, 1, 0, 1]), (cd (Tryz.f225.body.getD .skip) [1, 1, 1, 0, 0]), (cd (Tryz.f225.body.getD .skip) [1, 1, 1, 0, 1, 0]), (cd (Tryz.f225.body.getD .skip) [1, 1, 1, 0, 1, 1]), (cd (Tryz.f225.body.getD .skip) [1, 1, 1, 1, 0, 0]), (cd (Tryz.f225.body.getD .skip) [1, 1, 1, 1, 0, 1]), (cd (Tryz.f225.body.getD .skip) [1, 1, 1, 1, 1, 0]), (cd (Tryz.f225.body.getD .skip) [1, 1, 1, 1, 1, 1])]) (N := (fun _ _ => False)) (N' := (fun _ _ => False)) (X := (fun i => (fun _ _ => False))) (X' := (fun i => (fun _ _ => False))) (R := s225_R K) (s := s) (w := w) (p := s225_p1 K (s 0) (s 1) w) (q := s225_p1_den K s w) tr_id (fun i => tr_id) (by kernel_rfl) (by kernel_rfl) @h
/-- the call, from the text -/
theorem c225 (t0 t1 : Value) {K : Value → World → Prop} {w : World} (h : s225_p1 K t0 t1 w) : cl Tryz.prog 225 #[t0, t1] K w :=
  calls_of_tr (c := (Tryz.f225.body.getD .skip)) (fn := Tryz.f225) (q := s225_p1_den K (st0 #[t0, t1]) w) Tryz.func225 (by kernel_rfl) (by kernel_rfl) (Nat.le_of_ble_eq_true (by kernel_rfl)) (by kernel_rfl) (by kernel_rfl) (s225_p1_ok K (st0 #[t0, t1]) w @h)

/-! ### function 226 : (*e2e.engine.Engine).write -/
def s226_R (K : Value → World → Prop) (s : Nat → Value) (w : World) : Prop := retv Tryz.prog s Tryz.f226.results.toList (fun vs => K (pack vs) w) w
def s226_p1 (K : Value → World → Prop) (t0 t1 : Value) (w : World) : Prop :=
  nck t0 (fun t6 w =>
  fd 17 t6 (fun t7 w =>
  ld1 t7 (fun t8 w =>
  cl Tryz.prog 239 #[t8, t1] (fun t10 w =>
  boI .neq t10 (.int .i64 0) (fun t11 w =>
  ifb t11
  (nck t0 (fun t13 w =>
  fd 21 t13 (fun t14 w =>
  st1 t14 (.bool true) (fun w =>
  K (.int .i64 19) w) w) w) w)
  (nck t0 (fun t16 w =>
  fd 18 t16 (fun t17 w =>
  ld1 t17 (fun t18 w =>
  boI .add t18 (.int .i64 1) (fun t19 w =>
  nck t0 (fun t20 w =>
  fd 18 t20 (fun t21 w =>
  st1 t21 t19 (fun w =>
  nck t0 (fun t23 w =>
  fd 19 t23 (fun t24 w =>
  ld1 t24 (fun t25 w =>
  boI .add t25 (.int .i64 1) (fun t26 w =>
  nck t0 (fun t27 w =>
  fd 19 t27 (fun t28 w =>
  st1 t28 t26 (fun w =>
  nck t0 (fun t30 w =>
  fd 20 t30 (fun t31 w =>
  ld1 t31 (fun t32 w =>
  boI .add t32 (.int .i64 1) (fun t33 w =>
  nck t0 (fun t34 w =>
  fd 20 t34 (fun t35 w =>
  st1 t35 t33 (fun w =>
  K (.int .i64 0) w) w) w) w) w) w) w) w) w) w) w) w) w) w) w) w) w) w) w) w) w) w)) w) w) w) w) w
def s226_p1_den (K : Value → World → Prop) : (Nat → Value) → World → Prop := denL Tryz.prog [(cd (Tryz.f226.body.getD .skip) [0]), (cd (Tryz.f226.body.getD .skip) [1, 0, 0]), (cd (Tryz.f226.body.getD .skip) [1, 0, 1]), (cd (Tryz.f226.body.getD .skip) [1, 1, 0]), (cd (Tryz.f226.body.getD .skip) [1, 1, 1, 0]), (cd (Tryz.f226.body.getD .skip) [1, 1, 1, 1, 0]), (cd (Tryz.f226.body.getD .skip) [1, 1, 1, 1, 1, 0]), (cd (Tryz.f226.body.getD .skip) [1, 1, 1, 1, 1, 1])] (fun _ _ => False) (fun i => (fun _ _ => False)) (s226_R K)
theorem s226_p1_ok (K : Value → World → Prop) (s : Nat → Value) (w : World) (h : s226_p1 K (s 0) (s 1) w) : Tr (s226_p1_den K s w) :=
  tr_simple (P := Tryz.prog) (codes := [(cd (Tryz.f226.body.getD .skip) [0]), (cd (Tryz.f226.body.getD .skip) [1, 0, 0]), (cd (Tryz.f226.body.getD .skip) [1, 0, 1]), (cd (Tryz.f226.body.getD .skip) [1, 1, 0]), (cd (Tryz.f226.body.getD .skip) [1, 1, 1, 0]), (cd (Tryz.f226.body.getD .skip) [1, 1, 1, 1, 0]), (cd (Tryz.f226.body.getD .skip) [1, 1, 1, 1, 1, 0]), (cd (Tryz.f226.body.getD .skip) [1, 1, 1, 1, 1, 1])]) (N := (fun _ _ => False)) (N' := (fun _ _ => False)) (X := (fun i => (fun _ _ => False))) (X' := (fun i => (fun _ _ => False))) (R := s226_R K) (s := s) (w := w) (p := s226_p1 K (s 0) (s 1) w) (q := s226_p1_den K s w) tr_id (fun i => tr_id) (by kernel_rfl) (by kernel_rfl) @h
/-- the call, from the text -/
theorem c226 (t0 t1 : Value) {K : Value → World → Prop} {w : World} (h : s226_p1 K t0 t1 w) : cl Tryz.prog 226 #[t0, t1] K w :=
  calls_of_tr (c := (Tryz.f226.body.getD .skip)) (fn := Tryz.f226) (q := s226_p1_den K (st0 #[t0, t1]) w) Tryz.func226 (by kernel_rfl) (by kernel_rfl) (Nat.le_of_ble_eq_true (by kernel_rfl)) (by kernel_rfl) (by kernel_rfl) (s226_p1_ok K (st0 #[t0, t1]) w @h)

/-! ### function 128 : (*e2e.engine.Engine).settle -/
def s128_R (K : Value → World → Prop) (s : Nat → Value) (w : World) : Prop := retv Tryz.prog s Tryz.f128.results.toList (fun vs => K (pack vs) w) w
def s128_p1 (K : Value → World → Prop) (t0 : Value) (w : World) : Prop :=
  nck t0 (fun t4 w =>
  fd 21 t4 (fun t5 w =>
  ld1 t5 (fun t6 w =>
  ifb t6
  (K (.int .i64 19) w)
  (nck t0 (fun t8 w =>
  fd 20 t8 (fun t9 w =>
  ld1 t9 (fun t10 w =>
  boI .eql t10 (.int .i64 0) (fun t11 w =>
  ifb t11
  (K (.int .i64 0) w)
  (nck t0 (fun t13 w =>
  fd 17 t13 (fun t14 w =>
  ld1 t14 (fun t15 w =>
  cl Tryz.prog 179 #[t15] (fun t16 w =>
  boI .neq t16 (.int .i64 0) (fun t17 w =>
  ifb t17
  (nck t0 (fun t19 w =>
  fd 21 t19 (fun t20 w =>
  st1 t20 (.bool true) (fun w =>
  K (.int .i64 19) w) w) w) w)
  (nck t0 (fun t22 w =>
  fd 20 t22 (fun t23 w =>
  st1 t23 (.int .i64 0) (fun w =>
  cl Tryz.prog 125 #[t0] (fun t25 w =>
  K t25 w) w) w) w) w)) w) w) w) w) w)) w) w) w) w)) w) w) w
def s128_p1_den (K : Value → World → Prop) : (Nat → Value) → World → Prop := denL Tryz.prog [(cd (Tryz.f128.body.getD .skip) [0]), (cd (Tryz.f128.body.getD .skip) [1, 0, 0]), (cd (Tryz.f128.body.getD .skip) [1, 0, 1]), (cd (Tryz.f128.body.getD .skip) [1, 1, 0, 0]), (cd (Tryz.f128.body.getD .skip) [1, 1, 0, 1]), (cd (Tryz.f128.body.getD .skip) [1, 1, 1, 0, 0]), (cd (Tryz.f128.body.getD .skip) [1, 1, 1, 0, 1]), (cd (Tryz.f128.body.getD .skip) [1, 1, 1, 1, 0]), (cd (Tryz.f128.body.getD .skip) [1, 1, 1, 1, 1, 0]), (cd (Tryz.f128.body.getD .skip) [1, 1, 1, 1, 1, 1])] (fun _ _ => False) (fun i => (fun _ _ => False)) (s128_R K)
theorem s128_p1_ok (K : Value → World → Prop) (s : Nat → Value) (w : World) (h : s128_p1 K (s 0) w) : Tr (s128_p1_den K s w) :=
  tr_simple (P := Tryz.prog) (codes := [(cd (Tryz.f128.body.getD .skip) [0]), (cd (Tryz.f128.body.getD .skip) [1, 0, 0]), (cd (Tryz.f128.body.getD .skip) [1, 0, 1]), (cd (Tryz.f128.body.getD .skip) [1, 1, 0, 0]), (cd (Tryz.f128.body.getD .skip) [1, 1, 0, 1]), (cd (Tryz.f128.body.getD .skip) [1, 1, 1, 0, 0]), (cd (Tryz.f128.body.getD .skip) [1, 1, 1, 0, 1]), (cd (Tryz.f128.body.getD .skip) [1, 1, 1, 1, 0]), (cd (Tryz.f128.body.getD .skip) [1, 1, 1, 1, 1, 0]), (cd (Tryz.f128.body.getD .skip) [1, 1, 1, 1, 1, 1])]) (N := (fun _ _ => False)) (N' := (fun _ _ => False)) (X := (fun i => (fun _ _ => False))) (X' := (fun i => (fun _ _ => False))) (R := s128_R K) (s := s) (w := w) (p := s128_p1 K (s 0) w) (q := s128_p1_den K s w) tr_id (fun i => tr_id) (by kernel_rfl) (by kernel_rfl) @h
/-- the call, from the text -/
theorem c128 (t0 : Value) {K : Value → World → Prop} {w : World} (h : s128_p1 K t0 w) : cl Tryz.prog 128 #[t0] K w :=
  calls_of_tr (c := (Tryz.f128.body.getD .skip)) (fn := Tryz.f128) (q := s128_p1_den K (st0 #[t0]) w) Tryz.func128 (by kernel_rfl) (by kernel_rfl) (Nat.le_of_ble_eq_true (by kernel_rfl)) (by kernel_rfl) (by kernel_rfl) (s128_p1_ok K (st0 #[t0]) w @h)

/-! ### function 125 : (*e2e.engine.Engine).afterWrite -/
def s125_R (K : Value → World → Prop) (s : Nat → Value) (w : World) : Prop := retv Tryz.prog s Tryz.f125.results.toList (fun vs => K (pack vs) w) w
def s125_p1 (K : Value → World → Prop) (t0 t12 : Value) (w : World) : Prop :=
  ifb t12
  (K (.int .i64 0) w)
  (cl Tryz.prog 143 #[t0] (fun t14 w =>
  boI .eql t14 (.int .i64 19) (fun t15 w =>
  ifb t15
  (K (.int .i64 19) w)
  (K (.int .i64 0) w)) w) w)
def s125_p1_den (K : Value → World → Prop) : (Nat → Value) → World → Prop := denL Tryz.prog [(cd (Tryz.f125.body.getD .skip) [1, 0, 1]), (cd (Tryz.f125.body.getD .skip) [1, 1, 0, 0]), (cd (Tryz.f125.body.getD .skip) [1, 1, 0, 1]), (cd (Tryz.f125.body.getD .skip) [1, 1, 1, 0]), (cd (Tryz.f125.body.getD .skip) [1, 1, 1, 1])] (fun _ _ => False) (fun i => (fun _ _ => False)) (s125_R K)
theorem s125_p1_ok (K : Value → World → Prop) (s : Nat → Value) (w : World) (h : s125_p1 K (s 0) (s 12) w) : Tr (s125_p1_den K s w) :=
  tr_simple (P := Tryz.prog) (codes := [(cd (Tryz.f125.body.getD .skip) [1, 0, 1]), (cd (Tryz.f125.body.getD .skip) [1, 1, 0, 0]), (cd (Tryz.f125.body.getD .skip) [1, 1, 0, 1]), (cd (Tryz.f125.body.getD .skip) [1, 1, 1, 0]), (cd (Tryz.f125.body.getD .skip) [1, 1, 1, 1])]) (N := (fun _ _ => False)) (N' := (fun _ _ => False)) (X := (fun i => (fun _ _ => False))) (X' := (fun i => (fun _ _ => False))) (R := s125_R K) (s := s) (w := w) (p := s125_p1 K (s 0) (s 12) w) (q := s125_p1_den K s w) tr_id (fun i => tr_id) (by kernel_rfl) (by kernel_rfl) @h
def s125_p2_d (K : Value → World → Prop) (t0 : Value) (w0 w : World) : Prop :=
  nck t0 (fun t4 _ =>
  fd 19 t4 (fun t5 _ =>
  ld1 t5 (fun t6 _ =>
  nck t0 (fun t8 _ =>
  fd 0 t8 (fun t9 _ =>
  fd 13 t9 (fun t10 _ =>
  ld1 t10 (fun t11 _ =>
  boI .lss t6 t11 (fun t12 _ =>
  s125_p1 K t0 t12 w) w0) w0) w0) w0) w0) w0) w0) w0
def s125_p2 (K : Value → World → Prop) (t0 : Value) (w : World) : Prop := s125_p2_d K t0 (drw w) (drw w)
def s125_p2_den (K : Value → World → Prop) : (Nat → Value) → World → Prop := denL Tryz.prog [(cd (Tryz.f125.body.getD .skip) [1, 0, 0])] (s125_p1_den K) (fun i => (fun _ _ => False)) (s125_R K)
theorem s125_p2_ok (K : Value → World → Prop) (s : Nat → Value) (w : World) (h : s125_p2 K (s 0) w) : Tr (s125_p2_den K s w) :=
  tr_draw (P := Tryz.prog) (ops := (ro (cd (Tryz.f125.body.getD .skip) [1, 0, 0]))) (ms := [0, 1, 3, 7, 0, 16, 48, 112, 240, 511]) (cs := [0, 1, 2, 3, 4, 5, 6, 7, 8, 9]) (N := (fun s w => s125_p1 K (s 0) (s 12) w)) (N' := (s125_p1_den K)) (s := s) (w := w) (p := s125_p2 K (s 0) w) (q := s125_p2_den K s w) (by kernel_rfl) (by kernel_rfl) (fun s w h => s125_p1_ok K s w @h) (by kernel_rfl) (by kernel_rfl) @h
def s125_p3 (K : Value → World → Prop) (t0 : Value) (w : World) : Prop :=
  s125_p2 K t0 w
def s125_p3_den (K : Value → World → Prop) : (Nat → Value) → World → Prop := denL Tryz.prog [(cd (Tryz.f125.body.getD .skip) [0])] (s125_p2_den K) (fun i => (fun _ _ => False)) (s125_R K)
theorem s125_p3_ok (K : Value → World → Prop) (s : Nat → Value) (w : World) (h : s125_p3 K (s 0) w) : Tr (s125_p3_den K s w) :=
  tr_simple (P := Tryz.prog) (codes := [(cd (Tryz.f125.body.getD .skip) [0])]) (N := (fun s w => s125_p2 K (s 0) w)) (N' := (s125_p2_den K)) (X := (fun i => (fun _ _ => False))) (X' := (fun i => (fun _ _ => False))) (R := s125_R K) (s := s) (w := w) (p := s125_p3 K (s 0) w) (q := s125_p3_den K s w) (fun s w h => s125_p2_ok K s w @h) (fun i => tr_id) (by kernel_rfl) (by kernel_rfl) @h
/-- the call, from the text -/
theorem c125 (t0 : Value) {K : Value → World → Prop} {w : World} (h : s125_p3 K t0 w) : cl Tryz.prog 125 #[t0] K w :=
  calls_of_tr (c := (Tryz.f125.body.getD .skip)) (fn := Tryz.f125) (q := s125_p3_den K (st0 #[t0]) w) Tryz.func125 (by kernel_rfl) (by kernel_rfl) (Nat.le_of_ble_eq_true (by kernel_rfl)) (by kernel_rfl) (by kernel_rfl) (s125_p3_ok K (st0 #[t0]) w @h)

/-! ### function 143 : (*e2e.engine.Engine).snapshot -/
def s143_R (K : Value → World → Prop) (s : Nat → Value) (w : World) : Prop := retv Tryz.prog s Tryz.f143.results.toList (fun vs => K (pack vs) w) w
def s143_p1 (K : Value → World → Prop) (t0 t10 : Value) (w : World) : Prop :=
  boI .eql t10 (.int .i64 0) (fun t12 w =>
  ifb t12
  (nck t0 (fun t15 w =>
  fd 19 t15 (fun t16 w =>
  st1 t16 (.int .i64 0) (fun w =>
  nck t0 (fun t17 w =>
  fd 20 t17 (fun t18 w =>
  st1 t18 (.int .i64 0) (fun w =>
  nck t0 (fun t20 w =>
  fd 22 t20 (fun t21 w =>
  fd 3 t21 (fun t22 w =>
  ld1 t22 (fun t23 w =>
  boI .add t23 (.int .i64 1) (fun t24 w =>
  nck t0 (fun t25 w =>
  fd 22 t25 (fun t26 w =>
  fd 3 t26 (fun t27 w =>
  st1 t27 t24 (fun w =>
  K (.int .i64 0) w) w) w) w) w) w) w) w) w) w) w) w) w) w) w) w)
  (boI .eql t10 (.int .i64 18) (fun t29 w =>
  ifb t29
  (K (.int .i64 17) w)
  (nck t0 (fun t31 w =>
  fd 21 t31 (fun t32 w =>
  st1 t32 (.bool true) (fun w =>
  K (.int .i64 19) w) w) w) w)) w)) w
def s143_p1_den (K : Value → World → Prop) : (Nat → Value) → World → Prop := denL Tryz.prog [(cd (Tryz.f143.body.getD .skip) [1, 0, 1]), (cd (Tryz.f143.body.getD .skip) [1, 1, 0]), (cd (Tryz.f143.body.getD .skip) [1, 1, 1, 0]), (cd (Tryz.f143.body.getD .skip) [1, 1, 1, 1])] (fun _ _ => False) (fun i => (fun _ _ => False)) (s143_R K)
theorem s143_p1_ok (K : Value → World → Prop) (s : Nat → Value) (w : World) (h : s143_p1 K (s 0) (s 10) w) : Tr (s143_p1_den K s w) :=
  tr_simple (P := Tryz.prog) (codes := [(cd (Tryz.f143.body.getD .skip) [1, 0, 1]), (cd (Tryz.f143.body.getD .skip) [1, 1, 0]), (cd (Tryz.f143.body.getD .skip) [1, 1, 1, 0]), (cd (Tryz.f143.body.getD .skip) [1, 1, 1, 1])]) (N := (fun _ _ => False)) (N' := (fun _ _ => False)) (X := (fun i => (fun _ _ => False))) (X' := (fun i => (fun _ _ => False))) (R := s143_R K) (s := s) (w := w) (p := s143_p1 K (s 0) (s 10) w) (q := s143_p1_den K s w) tr_id (fun i => tr_id) (by kernel_rfl) (by kernel_rfl) @h
def s143_p2_d (K : Value → World → Prop) (t0 : Value) (w0 w : World) : Prop :=
  nck t0 (fun t4 _ =>
  fd 17 t4 (fun t5 _ =>
  ld1 t5 (fun t6 _ =>
  cl Tryz.prog 117 #[t0] (fun t8 w =>
  Below w0.heap.size w0 w ∧
  cl Tryz.prog 189 #[t8] (fun t9 w =>
  Below w0.heap.size w0 w ∧
  cl Tryz.prog 188 #[t6, t9] (fun t10 w =>
  s143_p1 K t0 t10 w) w) w) w) w0) w0) w0
def s143_p2 (K : Value → World → Prop) (t0 : Value) (w : World) : Prop := s143_p2_d K t0 (drw w) (drw w)
def s143_p2_den (K : Value → World → Prop) : (Nat → Value) → World → Prop := denL Tryz.prog [(cd (Tryz.f143.body.getD .skip) [1, 0, 0])] (s143_p1_den K) (fun i => (fun _ _ => False)) (s143_R K)
theorem s143_p2_ok (K : Value → World → Prop) (s : Nat → Value) (w : World) (h : s143_p2 K (s 0) w) : Tr (s143_p2_den K s w) :=
  tr_draw (P := Tryz.prog) (ops := (ro (cd (Tryz.f143.body.getD .skip) [1, 0, 0]))) (ms := [0, 1, 3, 7, 0, 16, 48, 127]) (cs := [0, 1, 2, 3, 4]) (N := (fun s w => s143_p1 K (s 0) (s 10) w)) (N' := (s143_p1_den K)) (s := s) (w := w) (p := s143_p2 K (s 0) w) (q := s143_p2_den K s w) (by kernel_rfl) (by kernel_rfl) (fun s w h => s143_p1_ok K s w @h) (by kernel_rfl) (by kernel_rfl) @h
def s143_p3 (K : Value → World → Prop) (t0 : Value) (w : World) : Prop :=
  s143_p2 K t0 w
def s143_p3_den (K : Value → World → Prop) : (Nat → Value) → World → Prop := denL Tryz.prog [(cd (Tryz.f143.body.getD .skip) [0])] (s143_p2_den K) (fun i => (fun _ _ => False)) (s143_R K)
theorem s143_p3_ok (K : Value → World → Prop) (s : Nat → Value) (w : World) (h : s143_p3 K (s 0) w) : Tr (s143_p3_den K s w) :=
  tr_simple (P := Tryz.prog) (codes := [(cd (Tryz.f143.body.getD .skip) [0])]) (N := (fun s w => s143_p2 K (s 0) w)) (N' := (s143_p2_den K)) (X := (fun i => (fun _ _ => False))) (X' := (fun i => (fun _ _ => False))) (R := s143_R K) (s := s) (w := w) (p := s143_p3 K (s 0) w) (q := s143_p3_den K s w) (fun s w h => s143_p2_ok K s w @h) (fun i => tr_id) (by kernel_rfl) (by kernel_rfl) @h
/-- the call, from the text -/
theorem c143 (t0 : Value) {K : Value → World → Prop} {w : World} (h : s143_p3 K t0 w) : cl Tryz.prog 143 #[t0] K w :=
  calls_of_tr (c := (Tryz.f143.body.getD .skip)) (fn := Tryz.f143) (q := s143_p3_den K (st0 #[t0]) w) Tryz.func143 (by kernel_rfl) (by kernel_rfl) (Nat.le_of_ble_eq_true (by kernel_rfl)) (by kernel_rfl) (by kernel_rfl) (s143_p3_ok K (st0 #[t0]) w @h)

/-! ### function 123 : (*e2e.engine.Engine).replay -/
def s123_R (K : Value → World → Prop) (s : Nat → Value) (w : World) : Prop := retv Tryz.prog s Tryz.f123.results.toList (fun vs => K (pack vs) w) w
def s123_p1 (K : Value → World → Prop) (t0 t1 : Value) (w : World) : Prop :=
  cl Tryz.prog 175 #[t1] (fun t10 w =>
  exq t10 0 (fun t11 w =>
  exq t10 1 (fun t12 w =>
  exq t10 2 (fun t13 w =>
  nw 52 #[(.int .u8 0), (.int .i64 0), (.int .i64 0), (.int .i64 0), (.int .i64 0), (.int .i64 0), (.int .i64 0), (.slice none 0 0)] (fun t6 w =>
  stn 8 t6 t12 (fun w =>
  un .not t13 (fun t15 w =>
  gd t15 false (fun K w => K t11 w) (fun t17 w =>
  gd t15 false (fun K w => K t0 w) (fun t18 w =>
  gd t15 false (nck t18) (fun t19 w =>
  gd t15 false (fd 18 t19) (fun t20 w =>
  gd t15 false (ld1 t20) (fun t21 w =>
  gd t15 false (boI .add t21 (.int .i64 1)) (fun t22 w =>
  gd t15 false (boI .neq t17 t22) (fun t23 w =>
  pk t15 (.bool true) t23 (fun t24 w =>
  gd t24 false (fd 0 t6) (fun t26 w =>
  gd t24 false (ld1 t26) (fun t27 w =>
  gd t24 false (cl Tryz.prog 30 #[t27]) (fun t28 w =>
  gd t24 false (un .not t28) (fun t29 w =>
  pk t24 (.bool true) t29 (fun t30 w =>
  ifb t30
  (K (.bool false) w)
  (ldn 8 t6 (fun t32 w =>
  cl Tryz.prog 176 #[t0, t32] (fun t33 w =>
  boI .neq t33 (.int .i64 0) (fun t34 w =>
  gd t34 false (fun K w => K t0 w) (fun t36 w =>
  gd t34 false (ldn 8 t6) (fun t37 w =>
  gd t34 false (cl Tryz.prog 177 #[t36, t37]) (fun t38 w =>
  gd t34 false (fi Tryz.prog 94 t38 0) (fun t39 w =>
  gd t34 false (boI .neq t39 (.int .i64 0)) (fun t40 w =>
  pk t34 (.bool true) t40 (fun t41 w =>
  ifb t41
  (K (.bool false) w)
  (nck t0 (fun t44 w =>
  fd 18 t44 (fun t45 w =>
  st1 t45 t11 (fun w =>
  nck t0 (fun t47 w =>
  fd 22 t47 (fun t48 w =>
  fd 4 t48 (fun t49 w =>
  ld1 t49 (fun t50 w =>
  boI .add t50 (.int .i64 1) (fun t51 w =>
  nck t0 (fun t52 w =>
  fd 22 t52 (fun t53 w =>
  fd 4 t53 (fun t54 w =>
  st1 t54 t51 (fun w =>
  K (.bool true) w) w) w) w) w) w) w) w) w) w) w) w) w)) w) w) w) w) w) w) w) w) w)) w) w) w) w) w) w) w) w) w) w) w) w) w) w) w) w) w) w) w) w
def s123_p1_den (K : Value → World → Prop) : (Nat → Value) → World → Prop := denL Tryz.prog [(cd (Tryz.f123.body.getD .skip) [0]), (cd (Tryz.f123.body.getD .skip) [1, 0]), (cd (Tryz.f123.body.getD .skip) [1, 1, 0, 0]), (cd (Tryz.f123.body.getD .skip) [1, 1, 0, 1]), (cd (Tryz.f123.body.getD .skip) [1, 1, 1, 0, 0]), (cd (Tryz.f123.body.getD .skip) [1, 1, 1, 0, 1]), (cd (Tryz.f123.body.getD .skip) [1, 1, 1, 1, 0]), (cd (Tryz.f123.body.getD .skip) [1, 1, 1, 1, 1, 0]), (cd (Tryz.f123.body.getD .skip) [1, 1, 1, 1, 1, 1, 0]), (cd (Tryz.f123.body.getD .skip) [1, 1, 1, 1, 1, 1, 1])] (fun _ _ => False) (fun i => (fun _ _ => False)) (s123_R K)
theorem s123_p1_ok (K : Value → World → Prop) (s : Nat → Value) (w : World) (h : s123_p1 K (s 0) (s 1) w) : Tr (s123_p1_den K s w) :=
  tr_simple (P := Tryz.prog) (codes := [(cd (Tryz.f123.body.getD .skip) [0]), (cd (Tryz.f123.body.getD .skip) [1, 0]), (cd (Tryz.f123.body.getD .skip) [1, 1, 0, 0]), (cd (Tryz.f123.body.getD .skip) [1, 1, 0, 1]), (cd (Tryz.f123.body.getD .skip) [1, 1, 1, 0, 0]), (cd (Tryz.f123.body.getD .skip) [1, 1, 1, 0, 1]), (cd (Tryz.f123.body.getD .skip) [1, 1, 1, 1, 0]), (cd (Tryz.f123.body.getD .skip) [1, 1, 1, 1, 1, 0]), (cd (Tryz.f123.body.getD .skip) [1, 1, 1, 1, 1, 1, 0]), (cd (Tryz.f123.body.getD .skip) [1, 1, 1, 1, 1, 1, 1])]) (N := (fun _ _ => False)) (N' := (fun _ _ => False)) (X := (fun i => (fun _ _ => False))) (X' := (fun i => (fun _ _ => False))) (R := s123_R K) (s := s) (w := w) (p := s123_p1 K (s 0) (s 1) w) (q := s123_p1_den K s w) tr_id (fun i => tr_id) (by kernel_rfl) (by kernel_rfl) @h
/-- the call, from the text -/
theorem c123 (t0 t1 : Value) {K : Value → World → Prop} {w : World} (h : s123_p1 K t0 t1 w) : cl Tryz.prog 123 #[t0, t1] K w :=
  calls_of_tr (c := (Tryz.f123.body.getD .skip)) (fn := Tryz.f123) (q := s123_p1_den K (st0 #[t0, t1]) w) Tryz.func123 (by kernel_rfl) (by kernel_rfl) (Nat.le_of_ble_eq_true (by kernel_rfl)) (by kernel_rfl) (by kernel_rfl) (s123_p1_ok K (st0 #[t0, t1]) w @h)

/-! ### function 177 : (*e2e.engine.Engine).apply -/
def s177_R (K : Value → World → Prop) (s : Nat → Value) (w : World) : Prop := retv Tryz.prog s Tryz.f177.results.toList (fun vs => K (pack vs) w) w
def s177_p1 (K : Value → World → Prop) (t4 : Value) (w : World) : Prop :=
  cl Tryz.prog 129 #[(.int .i64 1)] (fun t116 w =>
  stn 34 t4 t116 (fun w =>
  ldn 34 t4 (fun r0 _ =>
  K r0 w) w) w) w
def s177_p1_den (K : Value → World → Prop) : (Nat → Value) → World → Prop := denL Tryz.prog [(cd (Tryz.f177.body.getD .skip) [1, 1, 0]), (cd (Tryz.f177.body.getD .skip) [1, 1, 1])] (fun _ _ => False) (fun i => (fun _ _ => False)) (s177_R K)
theorem s177_p1_ok (K : Value → World → Prop) (s : Nat → Value) (w : World) (h : s177_p1 K (s 4) w) : Tr (s177_p1_den K s w) :=
  tr_simple (P := Tryz.prog) (codes := [(cd (Tryz.f177.body.getD .skip) [1, 1, 0]), (cd (Tryz.f177.body.getD .skip) [1, 1, 1])]) (N := (fun _ _ => False)) (N' := (fun _ _ => False)) (X := (fun i => (fun _ _ => False))) (X' := (fun i => (fun _ _ => False))) (R := s177_R K) (s := s) (w := w) (p := s177_p1 K (s 4) w) (q := s177_p1_den K s w) tr_id (fun i => tr_id) (by kernel_rfl) (by kernel_rfl) @h
def s177_p2 (K : Value → World → Prop) (t0 t3 t4 : Value) (w : World) : Prop :=
  ldn 8 t3 (fun t10 w =>
  cl Tryz.prog 206 #[t0, t10] (fun t11 w =>
  stn 34 t4 t11 (fun w =>
  ldn 34 t4 (fun r0 _ =>
  K r0 w) w) w) w) w
def s177_p2_den (K : Value → World → Prop) : (Nat → Value) → World → Prop := denL Tryz.prog [(cd (Tryz.f177.body.getD .skip) [1, 0, 1, 0, 1, 0, 0]), (cd (Tryz.f177.body.getD .skip) [1, 0, 1, 0, 1, 0, 1])] (fun _ _ => False) (fun i => (bif Nat.beq i 0 then (s177_p1_den K) else (fun _ _ => False))) (s177_R K)
theorem s177_p2_ok (K : Value → World → Prop) (s : Nat → Value) (w : World) (h : s177_p2 K (s 0) (s 3) (s 4) w) : Tr (s177_p2_den K s w) :=
  tr_simple (P := Tryz.prog) (codes := [(cd (Tryz.f177.body.getD .skip) [1, 0, 1, 0, 1, 0, 0]), (cd (Tryz.f177.body.getD .skip) [1, 0, 1, 0, 1, 0, 1])]) (N := (fun _ _ => False)) (N' := (fun _ _ => False)) (X := (fun i => (bif Nat.beq i 0 then (fun s w => s177_p1 K (s 4) w) else (fun _ _ => False)))) (X' := (fun i => (bif Nat.beq i 0 then (s177_p1_den K) else (fun _ _ => False)))) (R := s177_R K) (s := s) (w := w) (p := s177_p2 K (s 0) (s 3) (s 4) w) (q := s177_p2_den K s w) tr_id (fun i => (tr_bif (fun s w h => s177_p1_ok K s w @h) tr_id)) (by kernel_rfl) (by kernel_rfl) @h
def s177_p3 (K : Value → World → Prop) (t4 : Value) (w : World) : Prop :=
  ldn 34 t4 (fun r0 _ =>
  K r0 w) w
def s177_p3_den (K : Value → World → Prop) : (Nat → Value) → World → Prop := denL Tryz.prog [(cd (Tryz.f177.body.getD .skip) [1, 0, 1, 0, 1, 1, 1, 0, 1])] (fun _ _ => False) (fun i => (bif Nat.beq i 0 then (s177_p1_den K) else (fun _ _ => False))) (s177_R K)
theorem s177_p3_ok (K : Value → World → Prop) (s : Nat → Value) (w : World) (h : s177_p3 K (s 4) w) : Tr (s177_p3_den K s w) :=
  tr_simple (P := Tryz.prog) (codes := [(cd (Tryz.f177.body.getD .skip) [1, 0, 1, 0, 1, 1, 1, 0, 1])]) (N := (fun _ _ => False)) (N' := (fun _ _ => False)) (X := (fun i => (bif Nat.beq i 0 then (fun s w => s177_p1 K (s 4) w) else (fun _ _ => False)))) (X' := (fun i => (bif Nat.beq i 0 then (s177_p1_den K) else (fun _ _ => False)))) (R := s177_R K) (s := s) (w := w) (p := s177_p3 K (s 4) w) (q := s177_p3_den K s w) tr_id (fun i => (tr_bif (fun s w h => s177_p1_ok K s w @h) tr_id)) (by kernel_rfl) (by kernel_rfl) @h
def s177_p4_d (K : Value → World → Prop) (J : World → Prop) (t0 t3 t4 : Value) (w0 w : World) : Prop :=
  Go.Sh.R.qw J (ldn 8 t3) (fun t15 =>
  nck t0 (fun t17 _ =>
  fd 15 t17 (fun t18 _ =>
  Go.Sh.R.qw J (ld1 t18) (fun t19 =>
  nck t0 (fun t21 _ =>
  fd 14 t21 (fun t22 _ =>
  Go.Sh.R.qw J (ld1 t22) (fun t23 =>
  fd 1 t3 (fun t24 _ =>
  Go.Sh.R.qw J (ld1 t24) (fun t25 =>
  cl Tryz.prog 208 #[t19, t23, t25] (fun t26 w =>
  J w ∧
  cl Tryz.prog 207 #[t0, t15, t26] (fun t27 w =>
  stn 34 t4 t27 (fun w =>
  s177_p3 K t4 w) w) w) w)) w0)) w0) w0)) w0) w0)
def s177_p4 (K : Value → World → Prop) (t0 t3 t4 : Value) (w : World) : Prop := ∃ J : World → Prop, J (drw w) ∧ s177_p4_d K J t0 t3 t4 (drw w) (drw w)
def s177_p4_den (K : Value → World → Prop) : (Nat → Value) → World → Prop := denL Tryz.prog [(cd (Tryz.f177.body.getD .skip) [1, 0, 1, 0, 1, 1, 1, 0, 0])] (s177_p3_den K) (fun i => (bif Nat.beq i 0 then (s177_p1_den K) else (fun _ _ => False))) (s177_R K)
theorem s177_p4_ok (K : Value → World → Prop) (s : Nat → Value) (w : World) (h : s177_p4 K (s 0) (s 3) (s 4) w) : Tr (s177_p4_den K s w) :=
  Go.Sh.R.tr_drawR (P := Tryz.prog) (ops := (ro (cd (Tryz.f177.body.getD .skip) [1, 0, 1, 0, 1, 1, 1, 0, 0]))) (ms := [0, 0, 0, 4, 12, 28, 0, 64, 192, 448, 0, 1024, 4092, 8191, 16383]) (cs := [0, 1, 2, 3, 4, 5, 6, 7, 8, 9, 10, 11]) (N := (fun s w => s177_p3 K (s 4) w)) (N' := (s177_p3_den K)) (s := s) (w := w) (p := fun J => s177_p4_d K J (s 0) (s 3) (s 4) (drw w) (drw w)) (q := s177_p4_den K s w) (by kernel_rfl) (by kernel_rfl) (fun s w h => s177_p3_ok K s w @h) (by kernel_rfl) (by kernel_rfl) @h
def s177_p5 (K : Value → World → Prop) (t4 : Value) (w : World) : Prop :=
  ldn 34 t4 (fun r0 _ =>
  K r0 w) w
def s177_p5_den (K : Value → World → Prop) : (Nat → Value) → World → Prop := denL Tryz.prog [(cd (Tryz.f177.body.getD .skip) [1, 0, 1, 0, 1, 1, 1, 1, 1, 0, 1])] (fun _ _ => False) (fun i => (bif Nat.beq i 0 then (s177_p1_den K) else (fun _ _ => False))) (s177_R K)
theorem s177_p5_ok (K : Value → World → Prop) (s : Nat → Value) (w : World) (h : s177_p5 K (s 4) w) : Tr (s177_p5_den K s w) :=
  tr_simple (P := Tryz.prog) (codes := [(cd (Tryz.f177.body.getD .skip) [1, 0, 1, 0, 1, 1, 1, 1, 1, 0, 1])]) (N := (fun _ _ => False)) (N' := (fun _ _ => False)) (X := (fun i => (bif Nat.beq i 0 then (fun s w => s177_p1 K (s 4) w) else (fun _ _ => False)))) (X' := (fun i => (bif Nat.beq i 0 then (s177_p1_den K) else (fun _ _ => False)))) (R := s177_R K) (s := s) (w := w) (p := s177_p5 K (s 4) w) (q := s177_p5_den K s w) tr_id (fun i => (tr_bif (fun s w h => s177_p1_ok K s w @h) tr_id)) (by kernel_rfl) (by kernel_rfl) @h
def s177_p6_d (K : Value → World → Prop) (J : World → Prop) (t0 t3 t4 : Value) (w0 w : World) : Prop :=
  Go.Sh.R.qw J (ldn 8 t3) (fun t31 =>
  nck t0 (fun t33 _ =>
  fd 15 t33 (fun t34 _ =>
  Go.Sh.R.qw J (ld1 t34) (fun t35 =>
  fd 1 t3 (fun t36 _ =>
  Go.Sh.R.qw J (ld1 t36) (fun t37 =>
  cl Tryz.prog 209 #[t35, t37] (fun t38 w =>
  J w ∧
  cl Tryz.prog 207 #[t0, t31, t38] (fun t39 w =>
  stn 34 t4 t39 (fun w =>
  s177_p5 K t4 w) w) w) w)) w0)) w0) w0)
def s177_p6 (K : Value → World → Prop) (t0 t3 t4 : Value) (w : World) : Prop := ∃ J : World → Prop, J (drw w) ∧ s177_p6_d K J t0 t3 t4 (drw w) (drw w)
def s177_p6_den (K : Value → World → Prop) : (Nat → Value) → World → Prop := denL Tryz.prog [(cd (Tryz.f177.body.getD .skip) [1, 0, 1, 0, 1, 1, 1, 1, 1, 0, 0])] (s177_p5_den K) (fun i => (bif Nat.beq i 0 then (s177_p1_den K) else (fun _ _ => False))) (s177_R K)
theorem s177_p6_ok (K : Value → World → Prop) (s : Nat → Value) (w : World) (h : s177_p6 K (s 0) (s 3) (s 4) w) : Tr (s177_p6_den K s w) :=
  Go.Sh.R.tr_drawR (P := Tryz.prog) (ops := (ro (cd (Tryz.f177.body.getD .skip) [1, 0, 1, 0, 1, 1, 1, 1, 1, 0, 0]))) (ms := [0, 0, 0, 4, 12, 28, 0, 64, 252, 511, 1023]) (cs := [0, 1, 2, 3, 4, 5, 6, 7]) (N := (fun s w => s177_p5 K (s 4) w)) (N' := (s177_p5_den K)) (s := s) (w := w) (p := fun J => s177_p6_d K J (s 0) (s 3) (s 4) (drw w) (drw w)) (q := s177_p6_den K s w) (by kernel_rfl) (by kernel_rfl) (fun s w h => s177_p5_ok K s w @h) (by kernel_rfl) (by kernel_rfl) @h
def s177_p7 (K : Value → World → Prop) (t4 : Value) (w : World) : Prop :=
  ldn 34 t4 (fun r0 _ =>
  K r0 w) w
def s177_p7_den (K : Value → World → Prop) : (Nat → Value) → World → Prop := denL Tryz.prog [(cd (Tryz.f177.body.getD .skip) [1, 0, 1, 0, 1, 1, 1, 1, 1, 1, 1, 0, 1])] (fun _ _ => False) (fun i => (bif Nat.beq i 0 then (s177_p1_den K) else (fun _ _ => False))) (s177_R K)
theorem s177_p7_ok (K : Value → World → Prop) (s : Nat → Value) (w : World) (h : s177_p7 K (s 4) w) : Tr (s177_p7_den K s w) :=
  tr_simple (P := Tryz.prog) (codes := [(cd (Tryz.f177.body.getD .skip) [1, 0, 1, 0, 1, 1, 1, 1, 1, 1, 1, 0, 1])]) (N := (fun _ _ => False)) (N' := (fun _ _ => False)) (X := (fun i => (bif Nat.beq i 0 then (fun s w => s177_p1 K (s 4) w) else (fun _ _ => False)))) (X' := (fun i => (bif Nat.beq i 0 then (s177_p1_den K) else (fun _ _ => False)))) (R := s177_R K) (s := s) (w := w) (p := s177_p7 K (s 4) w) (q := s177_p7_den K s w) tr_id (fun i => (tr_bif (fun s w h => s177_p1_ok K s w @h) tr_id)) (by kernel_rfl) (by kernel_rfl) @h
def s177_p8_d (K : Value → World → Prop) (J : World → Prop) (t0 t3 t4 : Value) (w0 w : World) : Prop :=
  Go.Sh.R.qw J (ldn 8 t3) (fun t43 =>
  nck t0 (fun t45 _ =>
  fd 15 t45 (fun t46 _ =>
  Go.Sh.R.qw J (ld1 t46) (fun t47 =>
  nck t0 (fun t49 _ =>
  fd 14 t49 (fun t50 _ =>
  Go.Sh.R.qw J (ld1 t50) (fun t51 =>
  fd 1 t3 (fun t52 _ =>
  Go.Sh.R.qw J (ld1 t52) (fun t53 =>
  cl Tryz.prog 210 #[t47, t51, t53] (fun t54 w =>
  J w ∧
  cl Tryz.prog 207 #[t0, t43, t54] (fun t55 w =>
  stn 34 t4 t55 (fun w =>
  s177_p7 K t4 w) w) w) w)) w0)) w0) w0)) w0) w0)
def s177_p8 (K : Value → World → Prop) (t0 t3 t4 : Value) (w : World) : Prop := ∃ J : World → Prop, J (drw w) ∧ s177_p8_d K J t0 t3 t4 (drw w) (drw w)
def s177_p8_den (K : Value → World → Prop) : (Nat → Value) → World → Prop := denL Tryz.prog [(cd (Tryz.f177.body.getD .skip) [1, 0, 1, 0, 1, 1, 1, 1, 1, 1, 1, 0, 0])] (s177_p7_den K) (fun i => (bif Nat.beq i 0 then (s177_p1_den K) else (fun _ _ => False))) (s177_R K)
theorem s177_p8_ok (K : Value → World → Prop) (s : Nat → Value) (w : World) (h : s177_p8 K (s 0) (s 3) (s 4) w) : Tr (s177_p8_den K s w) :=
  Go.Sh.R.tr_drawR (P := Tryz.prog) (ops := (ro (cd (Tryz.f177.body.getD .skip) [1, 0, 1, 0, 1, 1, 1, 1, 1, 1, 1, 0, 0]))) (ms := [0, 0, 0, 4, 12, 28, 0, 64, 192, 448, 0, 1024, 4092, 8191, 16383]) (cs := [0, 1, 2, 3, 4, 5, 6, 7, 8, 9, 10, 11]) (N := (fun s w => s177_p7 K (s 4) w)) (N' := (s177_p7_den K)) (s := s) (w := w) (p := fun J => s177_p8_d K J (s 0) (s 3) (s 4) (drw w) (drw w)) (q := s177_p8_den K s w) (by kernel_rfl) (by kernel_rfl) (fun s w h => s177_p7_ok K s w @h) (by kernel_rfl) (by kernel_rfl) @h
def s177_p9 (K : Value → World → Prop) (t4 : Value) (w : World) : Prop :=
  ldn 34 t4 (fun r0 _ =>
  K r0 w) w
def s177_p9_den (K : Value → World → Prop) : (Nat → Value) → World → Prop := denL Tryz.prog [(cd (Tryz.f177.body.getD .skip) [1, 0, 1, 0, 1, 1, 1, 1, 1, 1, 1, 1, 1, 0, 1])] (fun _ _ => False) (fun i => (bif Nat.beq i 0 then (s177_p1_den K) else (fun _ _ => False))) (s177_R K)
theorem s177_p9_ok (K : Value → World → Prop) (s : Nat → Value) (w : World) (h : s177_p9 K (s 4) w) : Tr (s177_p9_den K s w) :=
  tr_simple (P := Tryz.prog) (codes := [(cd (Tryz.f177.body.getD .skip) [1, 0, 1, 0, 1, 1, 1, 1, 1, 1, 1, 1, 1, 0, 1])]) (N := (fun _ _ => False)) (N' := (fun _ _ => False)) (X := (fun i => (bif Nat.beq i 0 then (fun s w => s177_p1 K (s 4) w) else (fun _ _ => False)))) (X' := (fun i => (bif Nat.beq i 0 then (s177_p1_den K) else (fun _ _ => False)))) (R := s177_R K) (s := s) (w := w) (p := s177_p9 K (s 4) w) (q := s177_p9_den K s w) tr_id (fun i => (tr_bif (fun s w h => s177_p1_ok K s w @h) tr_id)) (by kernel_rfl) (by kernel_rfl) @h
def s177_p10_d (K : Value → World → Prop) (J : World → Prop) (t0 t3 t4 : Value) (w0 w : World) : Prop :=
  Go.Sh.R.qw J (ldn 8 t3) (fun t59 =>
  nck t0 (fun t61 _ =>
  fd 15 t61 (fun t62 _ =>
  Go.Sh.R.qw J (ld1 t62) (fun t63 =>
  nck t0 (fun t65 _ =>
  fd 14 t65 (fun t66 _ =>
  Go.Sh.R.qw J (ld1 t66) (fun t67 =>
  fd 1 t3 (fun t68 _ =>
  Go.Sh.R.qw J (ld1 t68) (fun t69 =>
  fd 7 t3 (fun t70 _ =>
  Go.Sh.R.qw J (ld1 t70) (fun t71 =>
  cl Tryz.prog 211 #[t63, t67, t69, t71] (fun t72 w =>
  J w ∧
  cl Tryz.prog 207 #[t0, t59, t72] (fun t73 w =>
  stn 34 t4 t73 (fun w =>
  s177_p9 K t4 w) w) w) w)) w0)) w0)) w0) w0)) w0) w0)
def s177_p10 (K : Value → World → Prop) (t0 t3 t4 : Value) (w : World) : Prop := ∃ J : World → Prop, J (drw w) ∧ s177_p10_d K J t0 t3 t4 (drw w) (drw w)
def s177_p10_den (K : Value → World → Prop) : (Nat → Value) → World → Prop := denL Tryz.prog [(cd (Tryz.f177.body.getD .skip) [1, 0, 1, 0, 1, 1, 1, 1, 1, 1, 1, 1, 1, 0, 0])] (s177_p9_den K) (fun i => (bif Nat.beq i 0 then (s177_p1_den K) else (fun _ _ => False))) (s177_R K)
theorem s177_p10_ok (K : Value → World → Prop) (s : Nat → Value) (w : World) (h : s177_p10 K (s 0) (s 3) (s 4) w) : Tr (s177_p10_den K s w) :=
  Go.Sh.R.tr_drawR (P := Tryz.prog) (ops := (ro (cd (Tryz.f177.body.getD .skip) [1, 0, 1, 0, 1, 1, 1, 1, 1, 1, 1, 1, 1, 0, 0]))) (ms := [0, 0, 0, 4, 12, 28, 0, 64, 192, 448, 0, 1024, 0, 4096, 16380, 32767, 65535]) (cs := [0, 1, 2, 3, 4, 5, 6, 7, 8, 9, 10, 11, 12, 13]) (N := (fun s w => s177_p9 K (s 4) w)) (N' := (s177_p9_den K)) (s := s) (w := w) (p := fun J => s177_p10_d K J (s 0) (s 3) (s 4) (drw w) (drw w)) (q := s177_p10_den K s w) (by kernel_rfl) (by kernel_rfl) (fun s w h => s177_p9_ok K s w @h) (by kernel_rfl) (by kernel_rfl) @h
def s177_p11 (K : Value → World → Prop) (t0 t3 t4 : Value) (w : World) : Prop :=
  ldn 8 t3 (fun t77 w =>
  cl Tryz.prog 212 #[t0, t77] (fun t78 w =>
  stn 34 t4 t78 (fun w =>
  ldn 34 t4 (fun r0 _ =>
  K r0 w) w) w) w) w
def s177_p11_den (K : Value → World → Prop) : (Nat → Value) → World → Prop := denL Tryz.prog [(cd (Tryz.f177.body.getD .skip) [1, 0, 1, 0, 1, 1, 1, 1, 1, 1, 1, 1, 1, 1, 1, 0, 0]), (cd (Tryz.f177.body.getD .skip) [1, 0, 1, 0, 1, 1, 1, 1, 1, 1, 1, 1, 1, 1, 1, 0, 1])] (fun _ _ => False) (fun i => (bif Nat.beq i 0 then (s177_p1_den K) else (fun _ _ => False))) (s177_R K)
theorem s177_p11_ok (K : Value → World → Prop) (s : Nat → Value) (w : World) (h : s177_p11 K (s 0) (s 3) (s 4) w) : Tr (s177_p11_den K s w) :=
  tr_simple (P := Tryz.prog) (codes := [(cd (Tryz.f177.body.getD .skip) [1, 0, 1, 0, 1, 1, 1, 1, 1, 1, 1, 1, 1, 1, 1, 0, 0]), (cd (Tryz.f177.body.getD .skip) [1, 0, 1, 0, 1, 1, 1, 1, 1, 1, 1, 1, 1, 1, 1, 0, 1])]) (N := (fun _ _ => False)) (N' := (fun _ _ => False)) (X := (fun i => (bif Nat.beq i 0 then (fun s w => s177_p1 K (s 4) w) else (fun _ _ => False)))) (X' := (fun i => (bif Nat.beq i 0 then (s177_p1_den K) else (fun _ _ => False)))) (R := s177_R K) (s := s) (w := w) (p := s177_p11 K (s 0) (s 3) (s 4) w) (q := s177_p11_den K s w) tr_id (fun i => (tr_bif (fun s w h => s177_p1_ok K s w @h) tr_id)) (by kernel_rfl) (by kernel_rfl) @h
def s177_p12 (K : Value → World → Prop) (t4 : Value) (w : World) : Prop :=
  ldn 34 t4 (fun r0 _ =>
  K r0 w) w
def s177_p12_den (K : Value → World → Prop) : (Nat → Value) → World → Prop := denL Tryz.prog [(cd (Tryz.f177.body.getD .skip) [1, 0, 1, 0, 1, 1, 1, 1, 1, 1, 1, 1, 1, 1, 1, 1, 1, 0, 1])] (fun _ _ => False) (fun i => (bif Nat.beq i 0 then (s177_p1_den K) else (fun _ _ => False))) (s177_R K)
theorem s177_p12_ok (K : Value → World → Prop) (s : Nat → Value) (w : World) (h : s177_p12 K (s 4) w) : Tr (s177_p12_den K s w) :=
  tr_simple (P := Tryz.prog) (codes := [(cd (Tryz.f177.body.getD .skip) [1, 0, 1, 0, 1, 1, 1, 1, 1, 1, 1, 1, 1, 1, 1, 1, 1, 0, 1])]) (N := (fun _ _ => False)) (N' := (fun _ _ => False)) (X := (fun i => (bif Nat.beq i 0 then (fun s w => s177_p1 K (s 4) w) else (fun _ _ => False)))) (X' := (fun i => (bif Nat.beq i 0 then (s177_p1_den K) else (fun _ _ => False)))) (R := s177_R K) (s := s) (w := w) (p := s177_p12 K (s 4) w) (q := s177_p12_den K s w) tr_id (fun i => (tr_bif (fun s w h => s177_p1_ok K s w @h) tr_id)) (by kernel_rfl) (by kernel_rfl) @h
def s177_p13_d (K : Value → World → Prop) (J : World → Prop) (t0 t3 t4 : Value) (w0 w : World) : Prop :=
  Go.Sh.R.qw J (ldn 8 t3) (fun t82 =>
  nck t0 (fun t84 _ =>
  fd 16 t84 (fun t85 _ =>
  Go.Sh.R.qw J (ld1 t85) (fun t86 =>
  nck t0 (fun t88 _ =>
  fd 15 t88 (fun t89 _ =>
  Go.Sh.R.qw J (ld1 t89) (fun t90 =>
  fd 1 t3 (fun t91 _ =>
  Go.Sh.R.qw J (ld1 t91) (fun t92 =>
  cl Tryz.prog 213 #[t86, t90, t92] (fun t93 w =>
  J w ∧
  cl Tryz.prog 207 #[t0, t82, t93] (fun t94 w =>
  stn 34 t4 t94 (fun w =>
  s177_p12 K t4 w) w) w) w)) w0)) w0) w0)) w0) w0)
def s177_p13 (K : Value → World → Prop) (t0 t3 t4 : Value) (w : World) : Prop := ∃ J : World → Prop, J (drw w) ∧ s177_p13_d K J t0 t3 t4 (drw w) (drw w)
def s177_p13_den (K : Value → World → Prop) : (Nat → Value) → World → Prop := denL Tryz.prog [(cd (Tryz.f177.body.getD .skip) [1, 0, 1, 0, 1, 1, 1, 1, 1, 1, 1, 1, 1, 1, 1, 1, 1, 0, 0])] (s177_p12_den K) (fun i => (bif Nat.beq i 0 then (s177_p1_den K) else (fun _ _ => False))) (s177_R K)
theorem s177_p13_ok (K : Value → World → Prop) (s : Nat → Value) (w : World) (h : s177_p13 K (s 0) (s 3) (s 4) w) : Tr (s177_p13_den K s w) :=
  Go.Sh.R.tr_drawR (P := Tryz.prog) (ops := (ro (cd (Tryz.f177.body.getD .skip) [1, 0, 1, 0, 1, 1, 1, 1, 1, 1, 1, 1, 1, 1, 1, 1, 1, 0, 0]))) (ms := [0, 0, 0, 4, 12, 28, 0, 64, 192, 448, 0, 1024, 4092, 8191, 16383]) (cs := [0, 1, 2, 3, 4, 5, 6, 7, 8, 9, 10, 11]) (N := (fun s w => s177_p12 K (s 4) w)) (N' := (s177_p12_den K)) (s := s) (w := w) (p := fun J => s177_p13_d K J (s 0) (s 3) (s 4) (drw w) (drw w)) (q := s177_p13_den K s w) (by kernel_rfl) (by kernel_rfl) (fun s w h => s177_p12_ok K s w @h) (by kernel_rfl) (by kernel_rfl) @h
def s177_p14 (K : Value → World → Prop) (t4 : Value) (w : World) : Prop :=
  ldn 34 t4 (fun r0 _ =>
  K r0 w) w
def s177_p14_den (K : Value → World → Prop) : (Nat → Value) → World → Prop := denL Tryz.prog [(cd (Tryz.f177.body.getD .skip) [1, 0, 1, 0, 1, 1, 1, 1, 1, 1, 1, 1, 1, 1, 1, 1, 1, 1, 1, 0, 1])] (fun _ _ => False) (fun i => (bif Nat.beq i 0 then (s177_p1_den K) else (fun _ _ => False))) (s177_R K)
theorem s177_p14_ok (K : Value → World → Prop) (s : Nat → Value) (w : World) (h : s177_p14 K (s 4) w) : Tr (s177_p14_den K s w) :=
  tr_simple (P := Tryz.prog) (codes := [(cd (Tryz.f177.body.getD .skip) [1, 0, 1, 0, 1, 1, 1, 1, 1, 1, 1, 1, 1, 1, 1, 1, 1, 1, 1, 0, 1])]) (N := (fun _ _ => False)) (N' := (fun _ _ => False)) (X := (fun i => (bif Nat.beq i 0 then (fun s w => s177_p1 K (s 4) w) else (fun _ _ => False)))) (X' := (fun i => (bif Nat.beq i 0 then (s177_p1_den K) else (fun _ _ => False)))) (R := s177_R K) (s := s) (w := w) (p := s177_p14 K (s 4) w) (q := s177_p14_den K s w) tr_id (fun i => (tr_bif (fun s w h => s177_p1_ok K s w @h) tr_id)) (by kernel_rfl) (by kernel_rfl) @h
def s177_p15_d (K : Value → World → Prop) (J : World → Prop) (t0 t3 t4 : Value) (w0 w : World) : Prop :=
  Go.Sh.R.qw J (ldn 8 t3) (fun t98 =>
  nck t0 (fun t100 _ =>
  fd 15 t100 (fun t101 _ =>
  Go.Sh.R.qw J (ld1 t101) (fun t102 =>
  nck t0 (fun t104 _ =>
  fd 14 t104 (fun t105 _ =>
  Go.Sh.R.qw J (ld1 t105) (fun t106 =>
  fd 1 t3 (fun t107 _ =>
  Go.Sh.R.qw J (ld1 t107) (fun t108 =>
  cl Tryz.prog 214 #[t102, t106, t108] (fun t109 w =>
  J w ∧
  cl Tryz.prog 207 #[t0, t98, t109] (fun t110 w =>
  stn 34 t4 t110 (fun w =>
  s177_p14 K t4 w) w) w) w)) w0)) w0) w0)) w0) w0)
def s177_p15 (K : Value → World → Prop) (t0 t3 t4 : Value) (w : World) : Prop := ∃ J : World → Prop, J (drw w) ∧ s177_p15_d K J t0 t3 t4 (drw w) (drw w)
def s177_p15_den (K : Value → World → Prop) : (Nat → Value) → World → Prop := denL Tryz.prog [(cd (Tryz.f177.body.getD .skip) [1, 0, 1, 0, 1, 1, 1, 1, 1, 1, 1, 1, 1, 1, 1, 1, 1, 1, 1, 0, 0])] (s177_p14_den K) (fun i => (bif Nat.beq i 0 then (s177_p1_den K) else (fun _ _ => False))) (s177_R K)
theorem s177_p15_ok (K : Value → World → Prop) (s : Nat → Value) (w : World) (h : s177_p15 K (s 0) (s 3) (s 4) w) : Tr (s177_p15_den K s w) :=
  Go.Sh.R.tr_drawR (P := Tryz.prog) (ops := (ro (cd (Tryz.f177.body.getD .skip) [1, 0, 1, 0, 1, 1, 1, 1, 1, 1, 1, 1, 1, 1, 1, 1, 1, 1, 1, 0, 0]))) (ms := [0, 0, 0, 4, 12, 28, 0, 64, 192, 448, 0, 1024, 4092, 8191, 16383]) (cs := [0, 1, 2, 3, 4, 5, 6, 7, 8, 9, 10, 11]) (N := (fun s w => s177_p14 K (s 4) w)) (N' := (s177_p14_den K)) (s := s) (w := w) (p := fun J => s177_p15_d K J (s 0) (s 3) (s 4) (drw w) (drw w)) (q := s177_p15_den K s w) (by kernel_rfl) (by kernel_rfl) (fun s w h => s177_p14_ok K s w @h) (by kernel_rfl) (by kernel_rfl) @h
def s177_p16 (K : Value → World → Prop) (t0 t3 t4 t6 : Value) (w : World) : Prop :=
  boI .eql t6 (.int .u8 9) (fun t112 w =>
  ifb t112
  (ldn 8 t3 (fun t114 w =>
  cl Tryz.prog 215 #[t0, t114] (fun t115 w =>
  stn 34 t4 t115 (fun w =>
  ldn 34 t4 (fun r0 _ =>
  K r0 w) w) w) w) w)
  (s177_p1 K t4 w)) w
def s177_p16_den (K : Value → World → Prop) : (Nat → Value) → World → Prop := denL Tryz.prog [(cd (Tryz.f177.body.getD .skip) [1, 0, 1, 0, 1, 1, 1, 1, 1, 1, 1, 1, 1, 1, 1, 1, 1, 1, 1, 1, 0]), (cd (Tryz.f177.body.getD .skip) [1, 0, 1, 0, 1, 1, 1, 1, 1, 1, 1, 1, 1, 1, 1, 1, 1, 1, 1, 1, 1])] (s177_p1_den K) (fun i => (bif Nat.beq i 0 then (s177_p1_den K) else (fun _ _ => False))) (s177_R K)
theorem s177_p16_ok (K : Value → World → Prop) (s : Nat → Value) (w : World) (h : s177_p16 K (s 0) (s 3) (s 4) (s 6) w) : Tr (s177_p16_den K s w) :=
  tr_simple (P := Tryz.prog) (codes := [(cd (Tryz.f177.body.getD .skip) [1, 0, 1, 0, 1, 1, 1, 1, 1, 1, 1, 1, 1, 1, 1, 1, 1, 1, 1, 1, 0]), (cd (Tryz.f177.body.getD .skip) [1, 0, 1, 0, 1, 1, 1, 1, 1, 1, 1, 1, 1, 1, 1, 1, 1, 1, 1, 1, 1])]) (N := (fun s w => s177_p1 K (s 4) w)) (N' := (s177_p1_den K)) (X := (fun i => (bif Nat.beq i 0 then (fun s w => s177_p1 K (s 4) w) else (fun _ _ => False)))) (X' := (fun i => (bif Nat.beq i 0 then (s177_p1_den K) else (fun _ _ => False)))) (R := s177_R K) (s := s) (w := w) (p := s177_p16 K (s 0) (s 3) (s 4) (s 6) w) (q := s177_p16_den K s w) (fun s w h => s177_p1_ok K s w @h) (fun i => (tr_bif (fun s w h => s177_p1_ok K s w @h) tr_id)) (by kernel_rfl) (by kernel_rfl) @h
def s177_p17 (K : Value → World → Prop) (t0 t3 t4 t6 t95 : Value) (w : World) : Prop :=
  ifb t95
  (s177_p15 K t0 t3 t4 w)
  (s177_p16 K t0 t3 t4 t6 w)
def s177_p17_den (K : Value → World → Prop) : (Nat → Value) → World → Prop := fun s w => ifb (ev s (.tmp 95)) ((s177_p15_den K) s w) ((s177_p16_den K) s w)
theorem s177_p17_ok (K : Value → World → Prop) (s : Nat → Value) (w : World) (h : s177_p17 K (s 0) (s 3) (s 4) (s 6) (s 95) w) : Tr (s177_p17_den K s w) :=
  tr_cond (v := ev s (.tmp 95)) (a := (fun s w => s177_p15 K (s 0) (s 3) (s 4) w) s w) (a' := (s177_p15_den K) s w) (b := (fun s w => s177_p16 K (s 0) (s 3) (s 4) (s 6) w) s w) (b' := (s177_p16_den K) s w) (p := s177_p17 K (s 0) (s 3) (s 4) (s 6) (s 95) w) (q := s177_p17_den K s w) ((fun s w h => s177_p15_ok K s w @h) s w) ((fun s w h => s177_p16_ok K s w @h) s w) (by kernel_rfl) (by kernel_rfl) @h
def s177_p18 (K : Value → World → Prop) (t0 t3 t4 t6 : Value) (w : World) : Prop :=
  boI .eql t6 (.int .u8 8) (fun t96 w =>
  s177_p17 K t0 t3 t4 t6 t96 w) w
def s177_p18_den (K : Value → World → Prop) : (Nat → Value) → World → Prop := denL Tryz.prog [(cd (Tryz.f177.body.getD .skip) [1, 0, 1, 0, 1, 1, 1, 1, 1, 1, 1, 1, 1, 1, 1, 1, 1, 1, 0])] (s177_p17_den K) (fun i => (bif Nat.beq i 0 then (s177_p1_den K) else (fun _ _ => False))) (s177_R K)
theorem s177_p18_ok (K : Value → World → Prop) (s : Nat → Value) (w : World) (h : s177_p18 K (s 0) (s 3) (s 4) (s 6) w) : Tr (s177_p18_den K s w) :=
  tr_simple (P := Tryz.prog) (codes := [(cd (Tryz.f177.body.getD .skip) [1, 0, 1, 0, 1, 1, 1, 1, 1, 1, 1, 1, 1, 1, 1, 1, 1, 1, 0])]) (N := (fun s w => s177_p17 K (s 0) (s 3) (s 4) (s 6) (s 95) w)) (N' := (s177_p17_den K)) (X := (fun i => (bif Nat.beq i 0 then (fun s w => s177_p1 K (s 4) w) else (fun _ _ => False)))) (X' := (fun i => (bif Nat.beq i 0 then (s177_p1_den K) else (fun _ _ => False)))) (R := s177_R K) (s := s) (w := w) (p := s177_p18 K (s 0) (s 3) (s 4) (s 6) w) (q := s177_p18_den K s w) (fun s w h => s177_p17_ok K s w @h) (fun i => (tr_bif (fun s w h => s177_p1_ok K s w @h) tr_id)) (by kernel_rfl) (by kernel_rfl) @h
def s177_p19 (K : Value → World → Prop) (t0 t3 t4 t6 t79 : Value) (w : World) : Prop :=
  ifb t79
  (s177_p13 K t0 t3 t4 w)
  (s177_p18 K t0 t3 t4 t6 w)
def s177_p19_den (K : Value → World → Prop) : (Nat → Value) → World → Prop := fun s w => ifb (ev s (.tmp 79)) ((s177_p13_den K) s w) ((s177_p18_den K) s w)
theorem s177_p19_ok (K : Value → World → Prop) (s : Nat → Value) (w : World) (h : s177_p19 K (s 0) (s 3) (s 4) (s 6) (s 79) w) : Tr (s177_p19_den K s w) :=
  tr_cond (v := ev s (.tmp 79)) (a := (fun s w => s177_p13 K (s 0) (s 3) (s 4) w) s w) (a' := (s177_p13_den K) s w) (b := (fun s w => s177_p18 K (s 0) (s 3) (s 4) (s 6) w) s w) (b' := (s177_p18_den K) s w) (p := s177_p19 K (s 0) (s 3) (s 4) (s 6) (s 79) w) (q := s177_p19_den K s w) ((fun s w h => s177_p13_ok K s w @h) s w) ((fun s w h => s177_p18_ok K s w @h) s w) (by kernel_rfl) (by kernel_rfl) @h
def s177_p20 (K : Value → World → Prop) (t0 t3 t4 t6 : Value) (w : World) : Prop :=
  boI .eql t6 (.int .u8 7) (fun t80 w =>
  s177_p19 K t0 t3 t4 t6 t80 w) w
def s177_p20_den (K : Value → World → Prop) : (Nat → Value) → World → Prop := denL Tryz.prog [(cd (Tryz.f177.body.getD .skip) [1, 0, 1, 0, 1, 1, 1, 1, 1, 1, 1, 1, 1, 1, 1, 1, 0])] (s177_p19_den K) (fun i => (bif Nat.beq i 0 then (s177_p1_den K) else (fun _ _ => False))) (s177_R K)
theorem s177_p20_ok (K : Value → World → Prop) (s : Nat → Value) (w : World) (h : s177_p20 K (s 0) (s 3) (s 4) (s 6) w) : Tr (s177_p20_den K s w) :=
  tr_simple (P := Tryz.prog) (codes := [(cd (Tryz.f177.body.getD .skip) [1, 0, 1, 0, 1, 1, 1, 1, 1, 1, 1, 1, 1, 1, 1, 1, 0])]) (N := (fun s w => s177_p19 K (s 0) (s 3) (s 4) (s 6) (s 79) w)) (N' := (s177_p19_den K)) (X := (fun i => (bif Nat.beq i 0 then (fun s w => s177_p1 K (s 4) w) else (fun _ _ => False)))) (X' := (fun i => (bif Nat.beq i 0 then (s177_p1_den K) else (fun _ _ => False)))) (R := s177_R K) (s := s) (w := w) (p := s177_p20 K (s 0) (s 3) (s 4) (s 6) w) (q := s177_p20_den K s w) (fun s w h => s177_p19_ok K s w @h) (fun i => (tr_bif (fun s w h => s177_p1_ok K s w @h) tr_id)) (by kernel_rfl) (by kernel_rfl) @h
def s177_p21 (K : Value → World → Prop) (t0 t3 t4 t6 t74 : Value) (w : World) : Prop :=
  ifb t74
  (s177_p11 K t0 t3 t4 w)
  (s177_p20 K t0 t3 t4 t6 w)
def s177_p21_den (K : Value → World → Prop) : (Nat → Value) → World → Prop := fun s w => ifb (ev s (.tmp 74)) ((s177_p11_den K) s w) ((s177_p20_den K) s w)
theorem s177_p21_ok (K : Value → World → Prop) (s : Nat → Value) (w : World) (h : s177_p21 K (s 0) (s 3) (s 4) (s 6) (s 74) w) : Tr (s177_p21_den K s w) :=
  tr_cond (v := ev s (.tmp 74)) (a := (fun s w => s177_p11 K (s 0) (s 3) (s 4) w) s w) (a' := (s177_p11_den K) s w) (b := (fun s w => s177_p20 K (s 0) (s 3) (s 4) (s 6) w) s w) (b' := (s177_p20_den K) s w) (p := s177_p21 K (s 0) (s 3) (s 4) (s 6) (s 74) w) (q := s177_p21_den K s w) ((fun s w h => s177_p11_ok K s w @h) s w) ((fun s w h => s177_p20_ok K s w @h) s w) (by kernel_rfl) (by kernel_rfl) @h
def s177_p22 (K : Value → World → Prop) (t0 t3 t4 t6 : Value) (w : World) : Prop :=
  boI .eql t6 (.int .u8 6) (fun t75 w =>
  s177_p21 K t0 t3 t4 t6 t75 w) w
def s177_p22_den (K : Value → World → Prop) : (Nat → Value) → World → Prop := denL Tryz.prog [(cd (Tryz.f177.body.getD .skip) [1, 0, 1, 0, 1, 1, 1, 1, 1, 1, 1, 1, 1, 1, 0])] (s177_p21_den K) (fun i => (bif Nat.beq i 0 then (s177_p1_den K) else (fun _ _ => False))) (s177_R K)
theorem s177_p22_ok (K : Value → World → Prop) (s : Nat → Value) (w : World) (h : s177_p22 K (s 0) (s 3) (s 4) (s 6) w) : Tr (s177_p22_den K s w) :=
  tr_simple (P := Tryz.prog) (codes := [(cd (Tryz.f177.body.getD .skip) [1, 0, 1, 0, 1, 1, 1, 1, 1, 1, 1, 1, 1, 1, 0])]) (N := (fun s w => s177_p21 K (s 0) (s 3) (s 4) (s 6) (s 74) w)) (N' := (s177_p21_den K)) (X := (fun i => (bif Nat.beq i 0 then (fun s w => s177_p1 K (s 4) w) else (fun _ _ => False)))) (X' := (fun i => (bif Nat.beq i 0 then (s177_p1_den K) else (fun _ _ => False)))) (R := s177_R K) (s := s) (w := w) (p := s177_p22 K (s 0) (s 3) (s 4) (s 6) w) (q := s177_p22_den K s w) (fun s w h => s177_p21_ok K s w @h) (fun i => (tr_bif (fun s w h => s177_p1_ok K s w @h) tr_id)) (by kernel_rfl) (by kernel_rfl) @h
def s177_p23 (K : Value → World → Prop) (t0 t3 t4 t6 t56 : Value) (w : World) : Prop :=
  ifb t56
  (s177_p10 K t0 t3 t4 w)
  (s177_p22 K t0 t3 t4 t6 w)
def s177_p23_den (K : Value → World → Prop) : (Nat → Value) → World → Prop := fun s w => ifb (ev s (.tmp 56)) ((s177_p10_den K) s w) ((s177_p22_den K) s w)
theorem s177_p23_ok (K : Value → World → Prop) (s : Nat → Value) (w : World) (h : s177_p23 K (s 0) (s 3) (s 4) (s 6) (s 56) w) : Tr (s177_p23_den K s w) :=
  tr_cond (v := ev s (.tmp 56)) (a := (fun s w => s177_p10 K (s 0) (s 3) (s 4) w) s w) (a' := (s177_p10_den K) s w) (b := (fun s w => s177_p22 K (s 0) (s 3) (s 4) (s 6) w) s w) (b' := (s177_p22_den K) s w) (p := s177_p23 K (s 0) (s 3) (s 4) (s 6) (s 56) w) (q := s177_p23_den K s w) ((fun s w h => s177_p10_ok K s w @h) s w) ((fun s w h => s177_p22_ok K s w @h) s w) (by kernel_rfl) (by kernel_rfl) @h
def s177_p24 (K : Value → World → Prop) (t0 t3 t4 t6 : Value) (w : World) : Prop :=
  boI .eql t6 (.int .u8 5) (fun t57 w =>
  s177_p23 K t0 t3 t4 t6 t57 w) w
def s177_p24_den (K : Value → World → Prop) : (Nat → Value) → World → Prop := denL Tryz.prog [(cd (Tryz.f177.body.getD .skip) [1, 0, 1, 0, 1, 1, 1, 1, 1, 1, 1, 1, 0])] (s177_p23_den K) (fun i => (bif Nat.beq i 0 then (s177_p1_den K) else (fun _ _ => False))) (s177_R K)
theorem s177_p24_ok (K : Value → World → Prop) (s : Nat → Value) (w : World) (h : s177_p24 K (s 0) (s 3) (s 4) (s 6) w) : Tr (s177_p24_den K s w) :=
  tr_simple (P := Tryz.prog) (codes := [(cd (Tryz.f177.body.getD .skip) [1, 0, 1, 0, 1, 1, 1, 1, 1, 1, 1, 1, 0])]) (N := (fun s w => s177_p23 K (s 0) (s 3) (s 4) (s 6) (s 56) w)) (N' := (s177_p23_den K)) (X := (fun i => (bif Nat.beq i 0 then (fun s w => s177_p1 K (s 4) w) else (fun _ _ => False)))) (X' := (fun i => (bif Nat.beq i 0 then (s177_p1_den K) else (fun _ _ => False)))) (R := s177_R K) (s := s) (w := w) (p := s177_p24 K (s 0) (s 3) (s 4) (s 6) w) (q := s177_p24_den K s w) (fun s w h => s177_p23_ok K s w @h) (fun i => (tr_bif (fun s w h => s177_p1_ok K s w @h) tr_id)) (by kernel_rfl) (by kernel_rfl) @h
def s177_p25 (K : Value → World → Prop) (t0 t3 t4 t6 t40 : Value) (w : World) : Prop :=
  ifb t40
  (s177_p8 K t0 t3 t4 w)
  (s177_p24 K t0 t3 t4 t6 w)
def s177_p25_den (K : Value → World → Prop) : (Nat → Value) → World → Prop := fun s w => ifb (ev s (.tmp 40)) ((s177_p8_den K) s w) ((s177_p24_den K) s w)
theorem s177_p25_ok (K : Value → World → Prop) (s : Nat → Value) (w : World) (h : s177_p25 K (s 0) (s 3) (s 4) (s 6) (s 40) w) : Tr (s177_p25_den K s w) :=
  tr_cond (v := ev s (.tmp 40)) (a := (fun s w => s177_p8 K (s 0) (s 3) (s 4) w) s w) (a' := (s177_p8_den K) s w) (b := (fun s w => s177_p24 K (s 0) (s 3) (s 4) (s 6) w) s w) (b' := (s177_p24_den K) s w) (p := s177_p25 K (s 0) (s 3) (s 4) (s 6) (s 40) w) (q := s177_p25_den K s w) ((fun s w h => s177_p8_ok K s w @h) s w) ((fun s w h => s177_p24_ok K s w @h) s w) (by kernel_rfl) (by kernel_rfl) @h
def s177_p26 (K : Value → World → Prop) (t0 t3 t4 t6 : Value) (w : World) : Prop :=
  boI .eql t6 (.int .u8 4) (fun t41 w =>
  s177_p25 K t0 t3 t4 t6 t41 w) w
def s177_p26_den (K : Value → World → Prop) : (Nat → Value) → World → Prop := denL Tryz.prog [(cd (Tryz.f177.body.getD .skip) [1, 0, 1, 0, 1, 1, 1, 1, 1, 1, 0])] (s177_p25_den K) (fun i => (bif Nat.beq i 0 then (s177_p1_den K) else (fun _ _ => False))) (s177_R K)
theorem s177_p26_ok (K : Value → World → Prop) (s : Nat → Value) (w : World) (h : s177_p26 K (s 0) (s 3) (s 4) (s 6) w) : Tr (s177_p26_den K s w) :=
  tr_simple (P := Tryz.prog) (codes := [(cd (Tryz.f177.body.getD .skip) [1, 0, 1, 0, 1, 1, 1, 1, 1, 1, 0])]) (N := (fun s w => s177_p25 K (s 0) (s 3) (s 4) (s 6) (s 40) w)) (N' := (s177_p25_den K)) (X := (fun i => (bif Nat.beq i 0 then (fun s w => s177_p1 K (s 4) w) else (fun _ _ => False)))) (X' := (fun i => (bif Nat.beq i 0 then (s177_p1_den K) else (fun _ _ => False)))) (R := s177_R K) (s := s) (w := w) (p := s177_p26 K (s 0) (s 3) (s 4) (s 6) w) (q := s177_p26_den K s w) (fun s w h => s177_p25_ok K s w @h) (fun i => (tr_bif (fun s w h => s177_p1_ok K s w @h) tr_id)) (by kernel_rfl) (by kernel_rfl) @h
def s177_p27 (K : Value → World → Prop) (t0 t3 t4 t6 t28 : Value) (w : World) : Prop :=
  ifb t28
  (s177_p6 K t0 t3 t4 w)
  (s177_p26 K t0 t3 t4 t6 w)
def s177_p27_den (K : Value → World → Prop) : (Nat → Value) → World → Prop := fun s w => ifb (ev s (.tmp 28)) ((s177_p6_den K) s w) ((s177_p26_den K) s w)
theorem s177_p27_ok (K : Value → World → Prop) (s : Nat → Value) (w : World) (h : s177_p27 K (s 0) (s 3) (s 4) (s 6) (s 28) w) : Tr (s177_p27_den K s w) :=
  tr_cond (v := ev s (.tmp 28)) (a := (fun s w => s177_p6 K (s 0) (s 3) (s 4) w) s w) (a' := (s177_p6_den K) s w) (b := (fun s w => s177_p26 K (s 0) (s 3) (s 4) (s 6) w) s w) (b' := (s177_p26_den K) s w) (p := s177_p27 K (s 0) (s 3) (s 4) (s 6) (s 28) w) (q := s177_p27_den K s w) ((fun s w h => s177_p6_ok K s w @h) s w) ((fun s w h => s177_p26_ok K s w @h) s w) (by kernel_rfl) (by kernel_rfl) @h
def s177_p28 (K : Value → World → Prop) (t0 t3 t4 t6 : Value) (w : World) : Prop :=
  boI .eql t6 (.int .u8 3) (fun t29 w =>
  s177_p27 K t0 t3 t4 t6 t29 w) w
def s177_p28_den (K : Value → World → Prop) : (Nat → Value) → World → Prop := denL Tryz.prog [(cd (Tryz.f177.body.getD .skip) [1, 0, 1, 0, 1, 1, 1, 1, 0])] (s177_p27_den K) (fun i => (bif Nat.beq i 0 then (s177_p1_den K) else (fun _ _ => False))) (s177_R K)
theorem s177_p28_ok (K : Value → World → Prop) (s : Nat → Value) (w : World) (h : s177_p28 K (s 0) (s 3) (s 4) (s 6) w) : Tr (s177_p28_den K s w) :=
  tr_simple (P := Tryz.prog) (codes := [(cd (Tryz.f177.body.getD .skip) [1, 0, 1, 0, 1, 1, 1, 1, 0])]) (N := (fun s w => s177_p27 K (s 0) (s 3) (s 4) (s 6) (s 28) w)) (N' := (s177_p27_den K)) (X := (fun i => (bif Nat.beq i 0 then (fun s w => s177_p1 K (s 4) w) else (fun _ _ => False)))) (X' := (fun i => (bif Nat.beq i 0 then (s177_p1_den K) else (fun _ _ => False)))) (R := s177_R K) (s := s) (w := w) (p := s177_p28 K (s 0) (s 3) (s 4) (s 6) w) (q := s177_p28_den K s w) (fun s w h => s177_p27_ok K s w @h) (fun i => (tr_bif (fun s w h => s177_p1_ok K s w @h) tr_id)) (by kernel_rfl) (by kernel_rfl) @h
def s177_p29 (K : Value → World → Prop) (t0 t3 t4 t6 t12 : Value) (w : World) : Prop :=
  ifb t12
  (s177_p4 K t0 t3 t4 w)
  (s177_p28 K t0 t3 t4 t6 w)
def s177_p29_den (K : Value → World → Prop) : (Nat → Value) → World → Prop := fun s w => ifb (ev s (.tmp 12)) ((s177_p4_den K) s w) ((s177_p28_den K) s w)
theorem s177_p29_ok (K : Value → World → Prop) (s : Nat → Value) (w : World) (h : s177_p29 K (s 0) (s 3) (s 4) (s 6) (s 12) w) : Tr (s177_p29_den K s w) :=
  tr_cond (v := ev s (.tmp 12)) (a := (fun s w => s177_p4 K (s 0) (s 3) (s 4) w) s w) (a' := (s177_p4_den K) s w) (b := (fun s w => s177_p28 K (s 0) (s 3) (s 4) (s 6) w) s w) (b' := (s177_p28_den K) s w) (p := s177_p29 K (s 0) (s 3) (s 4) (s 6) (s 12) w) (q := s177_p29_den K s w) ((fun s w h => s177_p4_ok K s w @h) s w) ((fun s w h => s177_p28_ok K s w @h) s w) (by kernel_rfl) (by kernel_rfl) @h
def s177_p30 (K : Value → World → Prop) (t0 t3 t4 t6 : Value) (w : World) : Prop :=
  boI .eql t6 (.int .u8 2) (fun t13 w =>
  s177_p29 K t0 t3 t4 t6 t13 w) w
def s177_p30_den (K : Value → World → Prop) : (Nat → Value) → World → Prop := denL Tryz.prog [(cd (Tryz.f177.body.getD .skip) [1, 0, 1, 0, 1, 1, 0])] (s177_p29_den K) (fun i => (bif Nat.beq i 0 then (s177_p1_den K) else (fun _ _ => False))) (s177_R K)
theorem s177_p30_ok (K : Value → World → Prop) (s : Nat → Value) (w : World) (h : s177_p30 K (s 0) (s 3) (s 4) (s 6) w) : Tr (s177_p30_den K s w) :=
  tr_simple (P := Tryz.prog) (codes := [(cd (Tryz.f177.body.getD .skip) [1, 0, 1, 0, 1, 1, 0])]) (N := (fun s w => s177_p29 K (s 0) (s 3) (s 4) (s 6) (s 12) w)) (N' := (s177_p29_den K)) (X := (fun i => (bif Nat.beq i 0 then (fun s w => s177_p1 K (s 4) w) else (fun _ _ => False)))) (X' := (fun i => (bif Nat.beq i 0 then (s177_p1_den K) else (fun _ _ => False)))) (R := s177_R K) (s := s) (w := w) (p := s177_p30 K (s 0) (s 3) (s 4) (s 6) w) (q := s177_p30_den K s w) (fun s w h => s177_p29_ok K s w @h) (fun i => (tr_bif (fun s w h => s177_p1_ok K s w @h) tr_id)) (by kernel_rfl) (by kernel_rfl) @h
def s177_p31 (K : Value → World → Prop) (t0 t3 t4 t6 t7 : Value) (w : World) : Prop :=
  ifb t7
  (s177_p2 K t0 t3 t4 w)
  (s177_p30 K t0 t3 t4 t6 w)
def s177_p31_den (K : Value → World → Prop) : (Nat → Value) → World → Prop := fun s w => ifb (ev s (.tmp 7)) ((s177_p2_den K) s w) ((s177_p30_den K) s w)
theorem s177_p31_ok (K : Value → World → Prop) (s : Nat → Value) (w : World) (h : s177_p31 K (s 0) (s 3) (s 4) (s 6) (s 7) w) : Tr (s177_p31_den K s w) :=
  tr_cond (v := ev s (.tmp 7)) (a := (fun s w => s177_p2 K (s 0) (s 3) (s 4) w) s w) (a' := (s177_p2_den K) s w) (b := (fun s w => s177_p30 K (s 0) (s 3) (s 4) (s 6) w) s w) (b' := (s177_p30_den K) s w) (p := s177_p31 K (s 0) (s 3) (s 4) (s 6) (s 7) w) (q := s177_p31_den K s w) ((fun s w h => s177_p2_ok K s w @h) s w) ((fun s w h => s177_p30_ok K s w @h) s w) (by kernel_rfl) (by kernel_rfl) @h
def s177_p32 (K : Value → World → Prop) (t0 t3 t4 t6 : Value) (w : World) : Prop :=
  boI .eql t6 (.int .u8 1) (fun t8 w =>
  s177_p31 K t0 t3 t4 t6 t8 w) w
def s177_p32_den (K : Value → World → Prop) : (Nat → Value) → World → Prop := denL Tryz.prog [(cd (Tryz.f177.body.getD .skip) [1, 0, 1, 0, 0])] (s177_p31_den K) (fun i => (bif Nat.beq i 0 then (s177_p1_den K) else (fun _ _ => False))) (s177_R K)
theorem s177_p32_ok (K : Value → World → Prop) (s : Nat → Value) (w : World) (h : s177_p32 K (s 0) (s 3) (s 4) (s 6) w) : Tr (s177_p32_den K s w) :=
  tr_simple (P := Tryz.prog) (codes := [(cd (Tryz.f177.body.getD .skip) [1, 0, 1, 0, 0])]) (N := (fun s w => s177_p31 K (s 0) (s 3) (s 4) (s 6) (s 7) w)) (N' := (s177_p31_den K)) (X := (fun i => (bif Nat.beq i 0 then (fun s w => s177_p1 K (s 4) w) else (fun _ _ => False)))) (X' := (fun i => (bif Nat.beq i 0 then (s177_p1_den K) else (fun _ _ => False)))) (R := s177_R K) (s := s) (w := w) (p := s177_p32 K (s 0) (s 3) (s 4) (s 6) w) (q := s177_p32_den K s w) (fun s w h => s177_p31_ok K s w @h) (fun i => (tr_bif (fun s w h => s177_p1_ok K s w @h) tr_id)) (by kernel_rfl) (by kernel_rfl) @h
def s177_p33 (K : Value → World → Prop) (t0 t1 : Value) (w : World) : Prop :=
  nw 52 (t1).cells (fun t3 w =>
  nw 94 #[(.int .i64 0), (.int .u8 0), (.int .i64 0), (.int .i64 0), (.int .i64 0), (.int .i64 0), (.int .i64 0), (.slice none 0 0), (.int .i64 0), (.int .i64 0), (.int .i64 0), (.slice none 0 0), (.int .i64 0), (.int .i64 0), (.int .i64 0), (.int .i64 0), (.int .i64 0), (.int .i64 0), (.slice none 0 0), (.int .i64 0), (.int .i64 0), (.int .i64 0), (.int .i64 0), (.int .i64 0), (.int .i64 0), (.int .i64 0), (.int .i64 0), (.int .i64 0), (.int .i64 0), (.int .i64 0), (.int .i64 0), (.int .i64 0), (.int .i64 0), (.int .i64 0)] (fun t4 w =>
  fd 0 t3 (fun t5 w =>
  ld1 t5 (fun t6 w =>
  s177_p32 K t0 t3 t4 t6 w) w) w) w) w
def s177_p33_den (K : Value → World → Prop) : (Nat → Value) → World → Prop := denL Tryz.prog [(cd (Tryz.f177.body.getD .skip) [0]), (cd (Tryz.f177.body.getD .skip) [1, 0, 0])] (s177_p32_den K) (fun i => (fun _ _ => False)) (s177_R K)
theorem s177_p33_ok (K : Value → World → Prop) (s : Nat → Value) (w : World) (h : s177_p33 K (s 0) (s 1) w) : Tr (s177_p33_den K s w) :=
  tr_simple (P := Tryz.prog) (codes := [(cd (Tryz.f177.body.getD .skip) [0]), (cd (Tryz.f177.body.getD .skip) [1, 0, 0])]) (N := (fun s w => s177_p32 K (s 0) (s 3) (s 4) (s 6) w)) (N' := (s177_p32_den K)) (X := (fun i => (fun _ _ => False))) (X' := (fun i => (fun _ _ => False))) (R := s177_R K) (s := s) (w := w) (p := s177_p33 K (s 0) (s 1) w) (q := s177_p33_den K s w) (fun s w h => s177_p32_ok K s w @h) (fun i => tr_id) (by kernel_rfl) (by kernel_rfl) @h
/-- the call, from the text -/
theorem c177 (t0 t1 : Value) {K : Value → World → Prop} {w : World} (h : s177_p33 K t0 t1 w) : cl Tryz.prog 177 #[t0, t1] K w :=
  calls_of_tr (c := (Tryz.f177.body.getD .skip)) (fn := Tryz.f177) (q := s177_p33_den K (st0 #[t0, t1]) w) Tryz.func177 (by kernel_rfl) (by kernel_rfl) (Nat.le_of_ble_eq_true (by kernel_rfl)) (by kernel_rfl) (by kernel_rfl) (s177_p33_ok K (st0 #[t0, t1]) w @h)

/-! ### function 206 : (*e2e.engine.Engine).hold -/
def s206_R (K : Value → World → Prop) (s : Nat → Value) (w : World) : Prop := retv Tryz.prog s Tryz.f206.results.toList (fun vs => K (pack vs) w) w
def s206_p1 (K : Value → World → Prop) (t3 t4 t5 t6 : Value) (w : World) : Prop :=
  boI .neq t6 (.int .i64 0) (fun t26 w =>
  ifb t26
  (cl Tryz.prog 129 #[t6] (fun t28 w =>
  stn 34 t4 t28 (fun w =>
  ldn 34 t4 (fun r0 _ =>
  K r0 w) w) w) w)
  (fd 0 t3 (fun t29 w =>
  ld1 t29 (fun t30 w =>
  fd 0 t5 (fun t31 w =>
  ld1 t31 (fun t32 w =>
  fd 5 t5 (fun t33 w =>
  ld1 t33 (fun t34 w =>
  bdq [(.int .i64 0), (.int .u8 0), (.int .i64 0), (.int .i64 0), (.int .i64 0), (.int .i64 0), (.int .i64 0), (.slice none 0 0), (.int .i64 0), (.int .i64 0), (.int .i64 0), (.slice none 0 0), (.int .i64 0), (.int .i64 0), (.int .i64 0), (.int .i64 0), (.int .i64 0), (.int .i64 0), (.slice none 0 0), (.int .i64 0), (.int .i64 0), (.int .i64 0), (.int .i64 0), (.int .i64 0), (.int .i64 0), (.int .i64 0), (.int .i64 0), (.int .i64 0), (.int .i64 0), (.int .i64 0), (.int .i64 0), (.int .i64 0), (.int .i64 0), (.int .i64 0)] [(some (1, 1), t30), (some (2, 1), t32), (some (3, 1), t34)] (fun t35 w =>
  stn 34 t4 t35 (fun w =>
  ldn 34 t4 (fun r0 _ =>
  K r0 w) w) w) w) w) w) w) w) w) w)) w
def s206_p1_den (K : Value → World → Prop) : (Nat → Value) → World → Prop := denL Tryz.prog [(cd (Tryz.f206.body.getD .skip) [1, 1, 0, 0]), (cd (Tryz.f206.body.getD .skip) [1, 1, 0, 1]), (cd (Tryz.f206.body.getD .skip) [1, 1, 1, 0]), (cd (Tryz.f206.body.getD .skip) [1, 1, 1, 1])] (fun _ _ => False) (fun i => (fun _ _ => False)) (s206_R K)
theorem s206_p1_ok (K : Value → World → Prop) (s : Nat → Value) (w : World) (h : s206_p1 K (s 3) (s 4) (s 5) (s 6) w) : Tr (s206_p1_den K s w) :=
  tr_simple (P := Tryz.prog) (codes := [(cd (Tryz.f206.body.getD .skip) [1, 1, 0, 0]), (cd (Tryz.f206.body.getD .skip) [1, 1, 0, 1]), (cd (Tryz.f206.body.getD .skip) [1, 1, 1, 0]), (cd (Tryz.f206.body.getD .skip) [1, 1, 1, 1])]) (N := (fun _ _ => False)) (N' := (fun _ _ => False)) (X := (fun i => (fun _ _ => False))) (X' := (fun i => (fun _ _ => False))) (R := s206_R K) (s := s) (w := w) (p := s206_p1 K (s 3) (s 4) (s 5) (s 6) w) (q := s206_p1_den K s w) tr_id (fun i => tr_id) (by kernel_rfl) (by kernel_rfl) @h
def s206_p2_d (K : Value → World → Prop) (J : World → Prop) (t0 t3 t4 : Value) (w0 w : World) : Prop :=
  nck t0 (fun t9 _ =>
  fd 15 t9 (fun t10 _ =>
  Go.Sh.R.qw J (ld1 t10) (fun t11 =>
  nck t0 (fun t13 _ =>
  fd 14 t13 (fun t14 _ =>
  Go.Sh.R.qw J (ld1 t14) (fun t15 =>
  fd 4 t3 (fun t16 _ =>
  Go.Sh.R.qw J (ld1 t16) (fun t17 =>
  fd 5 t3 (fun t18 _ =>
  Go.Sh.R.qw J (ld1 t18) (fun t19 =>
  fd 7 t3 (fun t20 _ =>
  Go.Sh.R.qw J (ld1 t20) (fun t21 =>
  (cl Tryz.prog 230 #[t11, t15, t17, t19, t21] (fun t22 w =>
  ((exq t22 0 (fun t23 w =>
  (exq t22 1 (fun t24 w =>
  nw 85 #[(.int .i64 0), (.int .i64 0), (.int .i64 0), (.int .i64 0), (.int .i64 0), (.int .i64 0), (.slice none 0 0)] (fun t5 w =>
  J w ∧
  stn 7 t5 t23 (fun w =>
  s206_p1 K t3 t4 t5 t24 w) w) w) w) ∧
  (nw 85 #[(.int .i64 0), (.int .i64 0), (.int .i64 0), (.int .i64 0), (.int .i64 0), (.int .i64 0), (.slice none 0 0)] (fun t5_2 w =>
  J w ∧
  (exq t22 1 (fun t24_2 w =>
  stn 7 t5_2 t23 (fun w =>
  s206_p1 K t3 t4 t5_2 t24_2 w) w) w) ∧
  (stn 7 t5_2 t23 (fun w =>
  exq t22 1 (fun t24_3 w =>
  s206_p1 K t3 t4 t5_2 t24_3 w) w) w)) w)) w) ∧
  (exq t22 1 (fun t24_4 w =>
  (exq t22 0 (fun t23_2 w =>
  nw 85 #[(.int .i64 0), (.int .i64 0), (.int .i64 0), (.int .i64 0), (.int .i64 0), (.int .i64 0), (.slice none 0 0)] (fun t5_3 w =>
  J w ∧
  stn 7 t5_3 t23_2 (fun w =>
  s206_p1 K t3 t4 t5_3 t24_4 w) w) w) w) ∧
  (nw 85 #[(.int .i64 0), (.int .i64 0), (.int .i64 0), (.int .i64 0), (.int .i64 0), (.int .i64 0), (.slice none 0 0)] (fun t5_4 w =>
  J w ∧
  exq t22 0 (fun t23_3 w =>
  stn 7 t5_4 t23_3 (fun w =>
  s206_p1 K t3 t4 t5_4 t24_4 w) w) w) w)) w) ∧
  (nw 85 #[(.int .i64 0), (.int .i64 0), (.int .i64 0), (.int .i64 0), (.int .i64 0), (.int .i64 0), (.slice none 0 0)] (fun t5_5 w =>
  J w ∧
  (exq t22 0 (fun t23_4 w =>
  (exq t22 1 (fun t24_5 w =>
  stn 7 t5_5 t23_4 (fun w =>
  s206_p1 K t3 t4 t5_5 t24_5 w) w) w) ∧
  (stn 7 t5_5 t23_4 (fun w =>
  exq t22 1 (fun t24_6 w =>
  s206_p1 K t3 t4 t5_5 t24_6 w) w) w)) w) ∧
  (exq t22 1 (fun t24_7 w =>
  exq t22 0 (fun t23_5 w =>
  stn 7 t5_5 t23_5 (fun w =>
  s206_p1 K t3 t4 t5_5 t24_7 w) w) w) w)) w)) ∧
  (nw 85 #[(.int .i64 0), (.int .i64 0), (.int .i64 0), (.int .i64 0), (.int .i64 0), (.int .i64 0), (.slice none 0 0)] (fun t5_6 w =>
  J w ∧
  (exq t22 0 (fun t23_6 w =>
  (exq t22 1 (fun t24_8 w =>
  stn 7 t5_6 t23_6 (fun w =>
  s206_p1 K t3 t4 t5_6 t24_8 w) w) w) ∧
  (stn 7 t5_6 t23_6 (fun w =>
  exq t22 1 (fun t24_9 w =>
  s206_p1 K t3 t4 t5_6 t24_9 w) w) w)) w) ∧
  (exq t22 1 (fun t24_10 w =>
  exq t22 0 (fun t23_7 w =>
  stn 7 t5_6 t23_7 (fun w =>
  s206_p1 K t3 t4 t5_6 t24_10 w) w) w) w)) w)) w) ∧
  (nw 85 #[(.int .i64 0), (.int .i64 0), (.int .i64 0), (.int .i64 0), (.int .i64 0), (.int .i64 0), (.slice none 0 0)] (fun t5_7 w =>
  J w ∧
  cl Tryz.prog 230 #[t11, t15, t17, t19, t21] (fun t22_2 w =>
  (exq t22_2 0 (fun t23_8 w =>
  (exq t22_2 1 (fun t24_11 w =>
  stn 7 t5_7 t23_8 (fun w =>
  s206_p1 K t3 t4 t5_7 t24_11 w) w) w) ∧
  (stn 7 t5_7 t23_8 (fun w =>
  exq t22_2 1 (fun t24_12 w =>
  s206_p1 K t3 t4 t5_7 t24_12 w) w) w)) w) ∧
  (exq t22_2 1 (fun t24_13 w =>
  exq t22_2 0 (fun t23_9 w =>
  stn 7 t5_7 t23_9 (fun w =>
  s206_p1 K t3 t4 t5_7 t24_13 w) w) w) w)) w) w))) w0)) w0)) w0)) w0) w0)) w0) w0
def s206_p2 (K : Value → World → Prop) (t0 t3 t4 : Value) (w : World) : Prop := ∃ J : World → Prop, J (drw w) ∧ s206_p2_d K J t0 t3 t4 (drw w) (drw w)
def s206_p2_den (K : Value → World → Prop) : (Nat → Value) → World → Prop := denL Tryz.prog [(cd (Tryz.f206.body.getD .skip) [1, 0])] (s206_p1_den K) (fun i => (fun _ _ => False)) (s206_R K)
theorem s206_p2_ok (K : Value → World → Prop) (s : Nat → Value) (w : World) (h : s206_p2 K (s 0) (s 3) (s 4) w) : Tr (s206_p2_den K s w) :=
  Go.Sh.R.tr_drawR (P := Tryz.prog) (ops := (ro (cd (Tryz.f206.body.getD .skip) [1, 0]))) (ms := [0, 1, 3, 7, 0, 16, 48, 112, 0, 256, 0, 1024, 0, 4096, 16383, 32767, 65535, 65535, 0, 393215, 1048575]) (cs := [0, 1, 2, 3, 4, 5, 6, 7, 8, 9, 10, 11, 12, 13]) (N := (fun s w => s206_p1 K (s 3) (s 4) (s 5) (s 6) w)) (N' := (s206_p1_den K)) (s := s) (w := w) (p := fun J => s206_p2_d K J (s 0) (s 3) (s 4) (drw w) (drw w)) (q := s206_p2_den K s w) (by kernel_rfl) (by kernel_rfl) (fun s w h => s206_p1_ok K s w @h) (by kernel_rfl) (by kernel_rfl) @h
def s206_p3 (K : Value → World → Prop) (t0 t1 : Value) (w : World) : Prop :=
  nw 52 (t1).cells (fun t3 w =>
  nw 94 #[(.int .i64 0), (.int .u8 0), (.int .i64 0), (.int .i64 0), (.int .i64 0), (.int .i64 0), (.int .i64 0), (.slice none 0 0), (.int .i64 0), (.int .i64 0), (.int .i64 0), (.slice none 0 0), (.int .i64 0), (.int .i64 0), (.int .i64 0), (.int .i64 0), (.int .i64 0), (.int .i64 0), (.slice none 0 0), (.int .i64 0), (.int .i64 0), (.int .i64 0), (.int .i64 0), (.int .i64 0), (.int .i64 0), (.int .i64 0), (.int .i64 0), (.int .i64 0), (.int .i64 0), (.int .i64 0), (.int .i64 0), (.int .i64 0), (.int .i64 0), (.int .i64 0)] (fun t4 w =>
  s206_p2 K t0 t3 t4 w) w) w
def s206_p3_den (K : Value → World → Prop) : (Nat → Value) → World → Prop := denL Tryz.prog [(cd (Tryz.f206.body.getD .skip) [0])] (s206_p2_den K) (fun i => (fun _ _ => False)) (s206_R K)
theorem s206_p3_ok (K : Value → World → Prop) (s : Nat → Value) (w : World) (h : s206_p3 K (s 0) (s 1) w) : Tr (s206_p3_den K s w) :=
  tr_simple (P := Tryz.prog) (codes := [(cd (Tryz.f206.body.getD .skip) [0])]) (N := (fun s w => s206_p2 K (s 0) (s 3) (s 4) w)) (N' := (s206_p2_den K)) (X := (fun i => (fun _ _ => False))) (X' := (fun i => (fun _ _ => False))) (R := s206_R K) (s := s) (w := w) (p := s206_p3 K (s 0) (s 1) w) (q := s206_p3_den K s w) (fun s w h => s206_p2_ok K s w @h) (fun i => tr_id) (by kernel_rfl) (by kernel_rfl) @h
/-- the call, from the text -/
theorem c206 (t0 t1 : Value) {K : Value → World → Prop} {w : World} (h : s206_p3 K t0 t1 w) : cl Tryz.prog 206 #[t0, t1] K w :=
  calls_of_tr (c := (Tryz.f206.body.getD .skip)) (fn := Tryz.f206) (q := s206_p3_den K (st0 #[t0, t1]) w) Tryz.func206 (by kernel_rfl) (by kernel_rfl) (Nat.le_of_ble_eq_true (by kernel_rfl)) (by kernel_rfl) (by kernel_rfl) (s206_p3_ok K (st0 #[t0, t1]) w @h)

/-! ### function 212 : (*e2e.engine.Engine).join -/
def s212_R (K : Value → World → Prop) (s : Nat → Value) (w : World) : Prop := retv Tryz.prog s Tryz.f212.results.toList (fun vs => K (pack vs) w) w
def s212_p1 (K : Value → World → Prop) (t3 t4 t5 t6 t7 : Value) (w : World) : Prop :=
  boI .neq t7 (.int .i64 0) (fun t28 w =>
  ifb t28
  (cl Tryz.prog 129 #[t7] (fun t30 w =>
  stn 34 t4 t30 (fun w =>
  ldn 34 t4 (fun r0 _ =>
  K r0 w) w) w) w)
  (fd 0 t3 (fun t31 w =>
  ld1 t31 (fun t32 w =>
  bdq [(.int .i64 0), (.int .u8 0), (.int .i64 0), (.int .i64 0), (.int .i64 0), (.int .i64 0), (.int .i64 0), (.slice none 0 0), (.int .i64 0), (.int .i64 0), (.int .i64 0), (.slice none 0 0), (.int .i64 0), (.int .i64 0), (.int .i64 0), (.int .i64 0), (.int .i64 0), (.int .i64 0), (.slice none 0 0), (.int .i64 0), (.int .i64 0), (.int .i64 0), (.int .i64 0), (.int .i64 0), (.int .i64 0), (.int .i64 0), (.int .i64 0), (.int .i64 0), (.int .i64 0), (.int .i64 0), (.int .i64 0), (.int .i64 0), (.int .i64 0), (.int .i64 0)] [(some (1, 1), t32), (some (2, 1), t5), (some (4, 1), t6)] (fun t35 w =>
  stn 34 t4 t35 (fun w =>
  ldn 34 t4 (fun r0 _ =>
  K r0 w) w) w) w) w) w)) w
def s212_p1_den (K : Value → World → Prop) : (Nat → Value) → World → Prop := denL Tryz.prog [(cd (Tryz.f212.body.getD .skip) [1, 1, 0, 0]), (cd (Tryz.f212.body.getD .skip) [1, 1, 0, 1]), (cd (Tryz.f212.body.getD .skip) [1, 1, 1, 0]), (cd (Tryz.f212.body.getD .skip) [1, 1, 1, 1])] (fun _ _ => False) (fun i => (fun _ _ => False)) (s212_R K)
theorem s212_p1_ok (K : Value → World → Prop) (s : Nat → Value) (w : World) (h : s212_p1 K (s 3) (s 4) (s 5) (s 6) (s 7) w) : Tr (s212_p1_den K s w) :=
  tr_simple (P := Tryz.prog) (codes := [(cd (Tryz.f212.body.getD .skip) [1, 1, 0, 0]), (cd (Tryz.f212.body.getD .skip) [1, 1, 0, 1]), (cd (Tryz.f212.body.getD .skip) [1, 1, 1, 0]), (cd (Tryz.f212.body.getD .skip) [1, 1, 1, 1])]) (N := (fun _ _ => False)) (N' := (fun _ _ => False)) (X := (fun i => (fun _ _ => False))) (X' := (fun i => (fun _ _ => False))) (R := s212_R K) (s := s) (w := w) (p := s212_p1 K (s 3) (s 4) (s 5) (s 6) (s 7) w) (q := s212_p1_den K s w) tr_id (fun i => tr_id) (by kernel_rfl) (by kernel_rfl) @h
def s212_p2_d (K : Value → World → Prop) (t0 t3 t4 : Value) (w0 w : World) : Prop :=
  nck t0 (fun t10 _ =>
  fd 16 t10 (fun t11 _ =>
  ld1 t11 (fun t12 _ =>
  nck t0 (fun t14 _ =>
  fd 15 t14 (fun t15 _ =>
  ld1 t15 (fun t16 _ =>
  fd 2 t3 (fun t17 _ =>
  ld1 t17 (fun t18 _ =>
  fd 4 t3 (fun t19 _ =>
  ld1 t19 (fun t20 _ =>
  fd 5 t3 (fun t21 _ =>
  ld1 t21 (fun t22 _ =>
  cl Tryz.prog 233 #[t12, t16, t18, t20, t22] (fun t23 w =>
  (exq t23 0 (fun t24 w =>
  (exq t23 1 (fun t25 w =>
  (exq t23 2 (fun t26 w =>
  s212_p1 K t3 t4 t24 t25 t26 w) w) ∧
  ((exq t23 2 (fun t26_2 w =>
  s212_p1 K t3 t4 t24 t25 t26_2 w) w) ∧
  (exq t23 2 (fun t26_3 w =>
  s212_p1 K t3 t4 t24 t25 t26_3 w) w))) w) ∧
  (exq t23 2 (fun t26_4 w =>
  (exq t23 1 (fun t25_2 w =>
  s212_p1 K t3 t4 t24 t25_2 t26_4 w) w) ∧
  (exq t23 1 (fun t25_3 w =>
  s212_p1 K t3 t4 t24 t25_3 t26_4 w) w)) w) ∧
  ((exq t23 1 (fun t25_4 w =>
  (exq t23 2 (fun t26_5 w =>
  s212_p1 K t3 t4 t24 t25_4 t26_5 w) w) ∧
  (exq t23 2 (fun t26_6 w =>
  s212_p1 K t3 t4 t24 t25_4 t26_6 w) w)) w) ∧
  (exq t23 2 (fun t26_7 w =>
  exq t23 1 (fun t25_5 w =>
  s212_p1 K t3 t4 t24 t25_5 t26_7 w) w) w))) w) ∧
  (exq t23 1 (fun t25_6 w =>
  (exq t23 0 (fun t24_2 w =>
  (exq t23 2 (fun t26_8 w =>
  s212_p1 K t3 t4 t24_2 t25_6 t26_8 w) w) ∧
  ((exq t23 2 (fun t26_9 w =>
  s212_p1 K t3 t4 t24_2 t25_6 t26_9 w) w) ∧
  (exq t23 2 (fun t26_10 w =>
  s212_p1 K t3 t4 t24_2 t25_6 t26_10 w) w))) w) ∧
  (exq t23 2 (fun t26_11 w =>
  exq t23 0 (fun t24_3 w =>
  s212_p1 K t3 t4 t24_3 t25_6 t26_11 w) w) w)) w) ∧
  (exq t23 2 (fun t26_12 w =>
  (exq t23 0 (fun t24_4 w =>
  (exq t23 1 (fun t25_7 w =>
  s212_p1 K t3 t4 t24_4 t25_7 t26_12 w) w) ∧
  (exq t23 1 (fun t25_8 w =>
  s212_p1 K t3 t4 t24_4 t25_8 t26_12 w) w)) w) ∧
  (exq t23 1 (fun t25_9 w =>
  exq t23 0 (fun t24_5 w =>
  s212_p1 K t3 t4 t24_5 t25_9 t26_12 w) w) w)) w)) w) w0) w0) w0) w0) w0) w0) w0) w0) w0) w0) w0) w0
def s212_p2 (K : Value → World → Prop) (t0 t3 t4 : Value) (w : World) : Prop := s212_p2_d K t0 t3 t4 (drw w) (drw w)
def s212_p2_den (K : Value → World → Prop) : (Nat → Value) → World → Prop := denL Tryz.prog [(cd (Tryz.f212.body.getD .skip) [1, 0])] (s212_p1_den K) (fun i => (fun _ _ => False)) (s212_R K)
theorem s212_p2_ok (K : Value → World → Prop) (s : Nat → Value) (w : World) (h : s212_p2 K (s 0) (s 3) (s 4) w) : Tr (s212_p2_den K s w) :=
  tr_draw (P := Tryz.prog) (ops := (ro (cd (Tryz.f212.body.getD .skip) [1, 0]))) (ms := [0, 1, 3, 7, 0, 16, 48, 112, 0, 256, 0, 1024, 0, 4096, 16383, 32767, 65535, 65535, 65535, 131071, 786431, 2097151]) (cs := [0, 1, 2, 3, 4, 5, 6, 7, 8, 9, 10, 11, 12, 13]) (N := (fun s w => s212_p1 K (s 3) (s 4) (s 5) (s 6) (s 7) w)) (N' := (s212_p1_den K)) (s := s) (w := w) (p := s212_p2 K (s 0) (s 3) (s 4) w) (q := s212_p2_den K s w) (by kernel_rfl) (by kernel_rfl) (fun s w h => s212_p1_ok K s w @h) (by kernel_rfl) (by kernel_rfl) @h
def s212_p3 (K : Value → World → Prop) (t0 t1 : Value) (w : World) : Prop :=
  nw 52 (t1).cells (fun t3 w =>
  nw 94 #[(.int .i64 0), (.int .u8 0), (.int .i64 0), (.int .i64 0), (.int .i64 0), (.int .i64 0), (.int .i64 0), (.slice none 0 0), (.int .i64 0), (.int .i64 0), (.int .i64 0), (.slice none 0 0), (.int .i64 0), (.int .i64 0), (.int .i64 0), (.int .i64 0), (.int .i64 0), (.int .i64 0), (.slice none 0 0), (.int .i64 0), (.int .i64 0), (.int .i64 0), (.int .i64 0), (.int .i64 0), (.int .i64 0), (.int .i64 0), (.int .i64 0), (.int .i64 0), (.int .i64 0), (.int .i64 0), (.int .i64 0), (.int .i64 0), (.int .i64 0), (.int .i64 0)] (fun t4 w =>
  s212_p2 K t0 t3 t4 w) w) w
def s212_p3_den (K : Value → World → Prop) : (Nat → Value) → World → Prop := denL Tryz.prog [(cd (Tryz.f212.body.getD .skip) [0])] (s212_p2_den K) (fun i => (fun _ _ => False)) (s212_R K)
theorem s212_p3_ok (K : Value → World → Prop) (s : Nat → Value) (w : World) (h : s212_p3 K (s 0) (s 1) w) : Tr (s212_p3_den K s w) :=
  tr_simple (P := Tryz.prog) (codes := [(cd (Tryz.f212.body.getD .skip) [0])]) (N := (fun s w => s212_p2 K (s 0) (s 3) (s 4) w)) (N' := (s212_p2_den K)) (X := (fun i => (fun _ _ => False))) (X' := (fun i => (fun _ _ => False))) (R := s212_R K) (s := s) (w := w) (p := s212_p3 K (s 0) (s 1) w) (q := s212_p3_den K s w) (fun s w h => s212_p2_ok K s w @h) (fun i => tr_id) (by kernel_rfl) (by kernel_rfl) @h
/-- the call, from the text -/
theorem c212 (t0 t1 : Value) {K : Value → World → Prop} {w : World} (h : s212_p3 K t0 t1 w) : cl Tryz.prog 212 #[t0, t1] K w :=
  calls_of_tr (c := (Tryz.f212.body.getD .skip)) (fn := Tryz.f212) (q := s212_p3_den K (st0 #[t0, t1]) w) Tryz.func212 (by kernel_rfl) (by kernel_rfl) (Nat.le_of_ble_eq_true (by kernel_rfl)) (by kernel_rfl) (by kernel_rfl) (s212_p3_ok K (st0 #[t0, t1]) w @h)

/-! ### function 207 : (*e2e.engine.Engine).moved -/
def s207_R (K : Value → World → Prop) (s : Nat → Value) (w : World) : Prop := retv Tryz.prog s Tryz.f207.results.toList (fun vs => K (pack vs) w) w
def s207_p1 (K : Value → World → Prop) (t4 t6 t7 : Value) (w : World) : Prop :=
  fd 0 t4 (fun t23 w =>
  ld1 t23 (fun t24 w =>
  fd 1 t7 (fun t25 w =>
  ld1 t25 (fun t26 w =>
  bdq [(.int .i64 0), (.int .u8 0), (.int .i64 0), (.int .i64 0), (.int .i64 0), (.int .i64 0), (.int .i64 0), (.slice none 0 0), (.int .i64 0), (.int .i64 0), (.int .i64 0), (.slice none 0 0), (.int .i64 0), (.int .i64 0), (.int .i64 0), (.int .i64 0), (.int .i64 0), (.int .i64 0), (.slice none 0 0), (.int .i64 0), (.int .i64 0), (.int .i64 0), (.int .i64 0), (.int .i64 0), (.int .i64 0), (.int .i64 0), (.int .i64 0), (.int .i64 0), (.int .i64 0), (.int .i64 0), (.int .i64 0), (.int .i64 0), (.int .i64 0), (.int .i64 0)] [(some (1, 1), t24), (some (5, 1), t26)] (fun t27 w =>
  stn 34 t6 t27 (fun w =>
  ldn 34 t6 (fun r0 _ =>
  K r0 w) w) w) w) w) w) w) w
def s207_p1_den (K : Value → World → Prop) : (Nat → Value) → World → Prop := denL Tryz.prog [(cd (Tryz.f207.body.getD .skip) [1, 1, 1, 0]), (cd (Tryz.f207.body.getD .skip) [1, 1, 1, 1])] (fun _ _ => False) (fun i => (fun _ _ => False)) (s207_R K)
theorem s207_p1_ok (K : Value → World → Prop) (s : Nat → Value) (w : World) (h : s207_p1 K (s 4) (s 6) (s 7) w) : Tr (s207_p1_den K s w) :=
  tr_simple (P := Tryz.prog) (codes := [(cd (Tryz.f207.body.getD .skip) [1, 1, 1, 0]), (cd (Tryz.f207.body.getD .skip) [1, 1, 1, 1])]) (N := (fun _ _ => False)) (N' := (fun _ _ => False)) (X := (fun i => (fun _ _ => False))) (X' := (fun i => (fun _ _ => False))) (R := s207_R K) (s := s) (w := w) (p := s207_p1 K (s 4) (s 6) (s 7) w) (q := s207_p1_den K s w) tr_id (fun i => tr_id) (by kernel_rfl) (by kernel_rfl) @h
def s207_p2_d (K : Value → World → Prop) (t0 t4 t6 : Value) (w0 w : World) : Prop :=
  nck t0 (fun t15 _ =>
  fd 15 t15 (fun t16 _ =>
  ld1 t16 (fun t17 _ =>
  fd 1 t4 (fun t18 _ =>
  ld1 t18 (fun t19 _ =>
  (cl Tryz.prog 163 #[t17, t19] (fun t20 w =>
  ((exq t20 0 (fun t21 w =>
  (exq t20 1 (fun t22 w =>
  nw 85 #[(.int .i64 0), (.int .i64 0), (.int .i64 0), (.int .i64 0), (.int .i64 0), (.int .i64 0), (.slice none 0 0)] (fun t7 w =>
  Below w0.heap.size w0 w ∧
  stn 7 t7 t21 (fun w =>
  s207_p1 K t4 t6 t7 w) w) w) w) ∧
  (nw 85 #[(.int .i64 0), (.int .i64 0), (.int .i64 0), (.int .i64 0), (.int .i64 0), (.int .i64 0), (.slice none 0 0)] (fun t7_2 w =>
  Below w0.heap.size w0 w ∧
  (exq t20 1 (fun t22_2 w =>
  stn 7 t7_2 t21 (fun w =>
  s207_p1 K t4 t6 t7_2 w) w) w) ∧
  (stn 7 t7_2 t21 (fun w =>
  exq t20 1 (fun t22_3 w =>
  s207_p1 K t4 t6 t7_2 w) w) w)) w)) w) ∧
  (exq t20 1 (fun t22_4 w =>
  (exq t20 0 (fun t21_2 w =>
  nw 85 #[(.int .i64 0), (.int .i64 0), (.int .i64 0), (.int .i64 0), (.int .i64 0), (.int .i64 0), (.slice none 0 0)] (fun t7_3 w =>
  Below w0.heap.size w0 w ∧
  stn 7 t7_3 t21_2 (fun w =>
  s207_p1 K t4 t6 t7_3 w) w) w) w) ∧
  (nw 85 #[(.int .i64 0), (.int .i64 0), (.int .i64 0), (.int .i64 0), (.int .i64 0), (.int .i64 0), (.slice none 0 0)] (fun t7_4 w =>
  Below w0.heap.size w0 w ∧
  exq t20 0 (fun t21_3 w =>
  stn 7 t7_4 t21_3 (fun w =>
  s207_p1 K t4 t6 t7_4 w) w) w) w)) w) ∧
  (nw 85 #[(.int .i64 0), (.int .i64 0), (.int .i64 0), (.int .i64 0), (.int .i64 0), (.int .i64 0), (.slice none 0 0)] (fun t7_5 w =>
  Below w0.heap.size w0 w ∧
  (exq t20 0 (fun t21_4 w =>
  (exq t20 1 (fun t22_5 w =>
  stn 7 t7_5 t21_4 (fun w =>
  s207_p1 K t4 t6 t7_5 w) w) w) ∧
  (stn 7 t7_5 t21_4 (fun w =>
  exq t20 1 (fun t22_6 w =>
  s207_p1 K t4 t6 t7_5 w) w) w)) w) ∧
  (exq t20 1 (fun t22_7 w =>
  exq t20 0 (fun t21_5 w =>
  stn 7 t7_5 t21_5 (fun w =>
  s207_p1 K t4 t6 t7_5 w) w) w) w)) w)) ∧
  (nw 85 #[(.int .i64 0), (.int .i64 0), (.int .i64 0), (.int .i64 0), (.int .i64 0), (.int .i64 0), (.slice none 0 0)] (fun t7_6 w =>
  Below w0.heap.size w0 w ∧
  (exq t20 0 (fun t21_6 w =>
  (exq t20 1 (fun t22_8 w =>
  stn 7 t7_6 t21_6 (fun w =>
  s207_p1 K t4 t6 t7_6 w) w) w) ∧
  (stn 7 t7_6 t21_6 (fun w =>
  exq t20 1 (fun t22_9 w =>
  s207_p1 K t4 t6 t7_6 w) w) w)) w) ∧
  (exq t20 1 (fun t22_10 w =>
  exq t20 0 (fun t21_7 w =>
  stn 7 t7_6 t21_7 (fun w =>
  s207_p1 K t4 t6 t7_6 w) w) w) w)) w)) w) ∧
  (nw 85 #[(.int .i64 0), (.int .i64 0), (.int .i64 0), (.int .i64 0), (.int .i64 0), (.int .i64 0), (.slice none 0 0)] (fun t7_7 w =>
  Below w0.heap.size w0 w ∧
  cl Tryz.prog 163 #[t17, t19] (fun t20_2 w =>
  (exq t20_2 0 (fun t21_8 w =>
  (exq t20_2 1 (fun t22_11 w =>
  stn 7 t7_7 t21_8 (fun w =>
  s207_p1 K t4 t6 t7_7 w) w) w) ∧
  (stn 7 t7_7 t21_8 (fun w =>
  exq t20_2 1 (fun t22_12 w =>
  s207_p1 K t4 t6 t7_7 w) w) w)) w) ∧
  (exq t20_2 1 (fun t22_13 w =>
  exq t20_2 0 (fun t21_9 w =>
  stn 7 t7_7 t21_9 (fun w =>
  s207_p1 K t4 t6 t7_7 w) w) w) w)) w) w)) w0) w0) w0) w0) w0
def s207_p2 (K : Value → World → Prop) (t0 t4 t6 : Value) (w : World) : Prop := s207_p2_d K t0 t4 t6 (drw w) (drw w)
def s207_p2_den (K : Value → World → Prop) : (Nat → Value) → World → Prop := denL Tryz.prog [(cd (Tryz.f207.body.getD .skip) [1, 1, 0])] (s207_p1_den K) (fun i => (fun _ _ => False)) (s207_R K)
theorem s207_p2_ok (K : Value → World → Prop) (s : Nat → Value) (w : World) (h : s207_p2 K (s 0) (s 4) (s 6) w) : Tr (s207_p2_den K s w) :=
  tr_draw (P := Tryz.prog) (ops := (ro (cd (Tryz.f207.body.getD .skip) [1, 1, 0]))) (ms := [0, 1, 3, 7, 0, 16, 63, 127, 255, 255, 0, 1535, 4095]) (cs := [0, 1, 2, 3, 4, 5]) (N := (fun s w => s207_p1 K (s 4) (s 6) (s 7) w)) (N' := (s207_p1_den K)) (s := s) (w := w) (p := s207_p2 K (s 0) (s 4) (s 6) w) (q := s207_p2_den K s w) (by kernel_rfl) (by kernel_rfl) (fun s w h => s207_p1_ok K s w @h) (by kernel_rfl) (by kernel_rfl) @h
def s207_p3 (K : Value → World → Prop) (t0 t1 t2 : Value) (w : World) : Prop :=
  nw 52 (t1).cells (fun t4 w =>
  nw 94 #[(.int .i64 0), (.int .u8 0), (.int .i64 0), (.int .i64 0), (.int .i64 0), (.int .i64 0), (.int .i64 0), (.slice none 0 0), (.int .i64 0), (.int .i64 0), (.int .i64 0), (.slice none 0 0), (.int .i64 0), (.int .i64 0), (.int .i64 0), (.int .i64 0), (.int .i64 0), (.int .i64 0), (.slice none 0 0), (.int .i64 0), (.int .i64 0), (.int .i64 0), (.int .i64 0), (.int .i64 0), (.int .i64 0), (.int .i64 0), (.int .i64 0), (.int .i64 0), (.int .i64 0), (.int .i64 0), (.int .i64 0), (.int .i64 0), (.int .i64 0), (.int .i64 0)] (fun t6 w =>
  boI .neq t2 (.int .i64 0) (fun t10 w =>
  ifb t10
  (cl Tryz.prog 129 #[t2] (fun t12 w =>
  stn 34 t6 t12 (fun w =>
  ldn 34 t6 (fun r0 _ =>
  K r0 w) w) w) w)
  (s207_p2 K t0 t4 t6 w)) w) w) w
def s207_p3_den (K : Value → World → Prop) : (Nat → Value) → World → Prop := denL Tryz.prog [(cd (Tryz.f207.body.getD .skip) [0]), (cd (Tryz.f207.body.getD .skip) [1, 0, 0]), (cd (Tryz.f207.body.getD .skip) [1, 0, 1])] (s207_p2_den K) (fun i => (fun _ _ => False)) (s207_R K)
theorem s207_p3_ok (K : Value → World → Prop) (s : Nat → Value) (w : World) (h : s207_p3 K (s 0) (s 1) (s 2) w) : Tr (s207_p3_den K s w) :=
  tr_simple (P := Tryz.prog) (codes := [(cd (Tryz.f207.body.getD .skip) [0]), (cd (Tryz.f207.body.getD .skip) [1, 0, 0]), (cd (Tryz.f207.body.getD .skip) [1, 0, 1])]) (N := (fun s w => s207_p2 K (s 0) (s 4) (s 6) w)) (N' := (s207_p2_den K)) (X := (fun i => (fun _ _ => False))) (X' := (fun i => (fun _ _ => False))) (R := s207_R K) (s := s) (w := w) (p := s207_p3 K (s 0) (s 1) (s 2) w) (q := s207_p3_den K s w) (fun s w h => s207_p2_ok K s w @h) (fun i => tr_id) (by kernel_rfl) (by kernel_rfl) @h
/-- the call, from the text -/
theorem c207 (t0 t1 t2 : Value) {K : Value → World → Prop} {w : World} (h : s207_p3 K t0 t1 t2 w) : cl Tryz.prog 207 #[t0, t1, t2] K w :=
  calls_of_tr (c := (Tryz.f207.body.getD .skip)) (fn := Tryz.f207) (q := s207_p3_den K (st0 #[t0, t1, t2]) w) Tryz.func207 (by kernel_rfl) (by kernel_rfl) (Nat.le_of_ble_eq_true (by kernel_rfl)) (by kernel_rfl) (by kernel_rfl) (s207_p3_ok K (st0 #[t0, t1, t2]) w @h)

/-! ### function 215 : (*e2e.engine.Engine).tick -/
def s215_R (K : Value → World → Prop) (s : Nat → Value) (w : World) : Prop := retv Tryz.prog s Tryz.f215.results.toList (fun vs => K (pack vs) w) w
def s215_p1 (K : Value → World → Prop) (t4 t5 : Value) (w : World) : Prop :=
  ldn 34 t5 (fun t62 w =>
  stn 34 t4 t62 (fun w =>
  ldn 34 t4 (fun r0 _ =>
  K r0 w) w) w) w
def s215_p1_den (K : Value → World → Prop) : (Nat → Value) → World → Prop := denL Tryz.prog [(cd (Tryz.f215.body.getD .skip) [1, 1, 1, 1, 1, 1, 1, 0]), (cd (Tryz.f215.body.getD .skip) [1, 1, 1, 1, 1, 1, 1, 1])] (fun _ _ => False) (fun i => (fun _ _ => False)) (s215_R K)
theorem s215_p1_ok (K : Value → World → Prop) (s : Nat → Value) (w : World) (h : s215_p1 K (s 4) (s 5) w) : Tr (s215_p1_den K s w) :=
  tr_simple (P := Tryz.prog) (codes := [(cd (Tryz.f215.body.getD .skip) [1, 1, 1, 1, 1, 1, 1, 0]), (cd (Tryz.f215.body.getD .skip) [1, 1, 1, 1, 1, 1, 1, 1])]) (N := (fun _ _ => False)) (N' := (fun _ _ => False)) (X := (fun i => (fun _ _ => False))) (X' := (fun i => (fun _ _ => False))) (R := s215_R K) (s := s) (w := w) (p := s215_p1 K (s 4) (s 5) w) (q := s215_p1_den K s w) tr_id (fun i => tr_id) (by kernel_rfl) (by kernel_rfl) @h
def s215_p2_d (K : Value → World → Prop) (t0 t4 t5 : Value) (w0 w : World) : Prop :=
  nck t0 (fun t48 _ =>
  fd 15 t48 (fun t49 _ =>
  ld1 t49 (fun t50 _ =>
  nck t0 (fun t52 _ =>
  fd 14 t52 (fun t53 _ =>
  ld1 t53 (fun t54 _ =>
  fd 8 t5 (fun t59 _ =>
  fd 9 t5 (fun t60 _ =>
  fd 10 t5 (fun t61 _ =>
  cl Tryz.prog 237 #[t50, t54] (fun t55 w =>
  (exq t55 0 (fun t56 w =>
  (exq t55 1 (fun t57 w =>
  (exq t55 2 (fun t58 w =>
  st1 t59 t56 (fun w =>
  st1 t60 t57 (fun w =>
  st1 t61 t58 (fun w =>
  s215_p1 K t4 t5 w) w) w) w) w) ∧
  (st1 t59 t56 (fun w =>
  (exq t55 2 (fun t58_2 w =>
  st1 t60 t57 (fun w =>
  st1 t61 t58_2 (fun w =>
  s215_p1 K t4 t5 w) w) w) w) ∧
  (st1 t60 t57 (fun w =>
  exq t55 2 (fun t58_3 w =>
  st1 t61 t58_3 (fun w =>
  s215_p1 K t4 t5 w) w) w) w)) w)) w) ∧
  (exq t55 2 (fun t58_4 w =>
  (exq t55 1 (fun t57_2 w =>
  st1 t59 t56 (fun w =>
  st1 t60 t57_2 (fun w =>
  st1 t61 t58_4 (fun w =>
  s215_p1 K t4 t5 w) w) w) w) w) ∧
  (st1 t59 t56 (fun w =>
  exq t55 1 (fun t57_3 w =>
  st1 t60 t57_3 (fun w =>
  st1 t61 t58_4 (fun w =>
  s215_p1 K t4 t5 w) w) w) w) w)) w) ∧
  (st1 t59 t56 (fun w =>
  (exq t55 1 (fun t57_4 w =>
  (exq t55 2 (fun t58_5 w =>
  st1 t60 t57_4 (fun w =>
  st1 t61 t58_5 (fun w =>
  s215_p1 K t4 t5 w) w) w) w) ∧
  (st1 t60 t57_4 (fun w =>
  exq t55 2 (fun t58_6 w =>
  st1 t61 t58_6 (fun w =>
  s215_p1 K t4 t5 w) w) w) w)) w) ∧
  (exq t55 2 (fun t58_7 w =>
  exq t55 1 (fun t57_5 w =>
  st1 t60 t57_5 (fun w =>
  st1 t61 t58_7 (fun w =>
  s215_p1 K t4 t5 w) w) w) w) w)) w)) w) ∧
  (exq t55 1 (fun t57_6 w =>
  (exq t55 0 (fun t56_2 w =>
  (exq t55 2 (fun t58_8 w =>
  st1 t59 t56_2 (fun w =>
  st1 t60 t57_6 (fun w =>
  st1 t61 t58_8 (fun w =>
  s215_p1 K t4 t5 w) w) w) w) w) ∧
  (st1 t59 t56_2 (fun w =>
  (exq t55 2 (fun t58_9 w =>
  st1 t60 t57_6 (fun w =>
  st1 t61 t58_9 (fun w =>
  s215_p1 K t4 t5 w) w) w) w) ∧
  (st1 t60 t57_6 (fun w =>
  exq t55 2 (fun t58_10 w =>
  st1 t61 t58_10 (fun w =>
  s215_p1 K t4 t5 w) w) w) w)) w)) w) ∧
  (exq t55 2 (fun t58_11 w =>
  exq t55 0 (fun t56_3 w =>
  st1 t59 t56_3 (fun w =>
  st1 t60 t57_6 (fun w =>
  st1 t61 t58_11 (fun w =>
  s215_p1 K t4 t5 w) w) w) w) w) w)) w) ∧
  (exq t55 2 (fun t58_12 w =>
  (exq t55 0 (fun t56_4 w =>
  (exq t55 1 (fun t57_7 w =>
  st1 t59 t56_4 (fun w =>
  st1 t60 t57_7 (fun w =>
  st1 t61 t58_12 (fun w =>
  s215_p1 K t4 t5 w) w) w) w) w) ∧
  (st1 t59 t56_4 (fun w =>
  exq t55 1 (fun t57_8 w =>
  st1 t60 t57_8 (fun w =>
  st1 t61 t58_12 (fun w =>
  s215_p1 K t4 t5 w) w) w) w) w)) w) ∧
  (exq t55 1 (fun t57_9 w =>
  exq t55 0 (fun t56_5 w =>
  st1 t59 t56_5 (fun w =>
  st1 t60 t57_9 (fun w =>
  st1 t61 t58_12 (fun w =>
  s215_p1 K t4 t5 w) w) w) w) w) w)) w)) w) w0) w0) w0) w0) w0) w0) w0) w0) w0
def s215_p2 (K : Value → World → Prop) (t0 t4 t5 : Value) (w : World) : Prop := s215_p2_d K t0 t4 t5 (drw w) (drw w)
def s215_p2_den (K : Value → World → Prop) : (Nat → Value) → World → Prop := denL Tryz.prog [(cd (Tryz.f215.body.getD .skip) [1, 1, 1, 1, 1, 1, 0])] (s215_p1_den K) (fun i => (fun _ _ => False)) (s215_R K)
theorem s215_p2_ok (K : Value → World → Prop) (s : Nat → Value) (w : World) (h : s215_p2 K (s 0) (s 4) (s 5) w) : Tr (s215_p2_den K s w) :=
  tr_draw (P := Tryz.prog) (ops := (ro (cd (Tryz.f215.body.getD .skip) [1, 1, 1, 1, 1, 1, 0]))) (ms := [0, 1, 3, 7, 0, 16, 48, 112, 255, 511, 1023, 1023, 1023, 2047, 10239, 28671, 61439, 131071, 262143]) (cs := [0, 1, 2, 3, 4, 5, 6, 7, 13, 15, 17]) (N := (fun s w => s215_p1 K (s 4) (s 5) w)) (N' := (s215_p1_den K)) (s := s) (w := w) (p := s215_p2 K (s 0) (s 4) (s 5) w) (q := s215_p2_den K s w) (by kernel_rfl) (by kernel_rfl) (fun s w h => s215_p1_ok K s w @h) (by kernel_rfl) (by kernel_rfl) @h
def s215_p3 (K : Value → World → Prop) (t0 t4 t5 : Value) (w : World) : Prop :=
  nck t0 (fun t35 w =>
  fd 14 t35 (fun t36 w =>
  ld1 t36 (fun t37 w =>
  boI .add t37 (.int .i64 1) (fun t38 w =>
  nck t0 (fun t39 w =>
  fd 14 t39 (fun t40 w =>
  st1 t40 t38 (fun w =>
  nck t0 (fun t42 w =>
  fd 14 t42 (fun t43 w =>
  ld1 t43 (fun t44 w =>
  fd 6 t5 (fun t45 w =>
  st1 t45 t44 (fun w =>
  s215_p2 K t0 t4 t5 w) w) w) w) w) w) w) w) w) w) w) w) w
def s215_p3_den (K : Value → World → Prop) : (Nat → Value) → World → Prop := denL Tryz.prog [(cd (Tryz.f215.body.getD .skip) [1, 1, 1, 1, 0]), (cd (Tryz.f215.body.getD .skip) [1, 1, 1, 1, 1, 0])] (s215_p2_den K) (fun i => (fun _ _ => False)) (s215_R K)
theorem s215_p3_ok (K : Value → World → Prop) (s : Nat → Value) (w : World) (h : s215_p3 K (s 0) (s 4) (s 5) w) : Tr (s215_p3_den K s w) :=
  tr_simple (P := Tryz.prog) (codes := [(cd (Tryz.f215.body.getD .skip) [1, 1, 1, 1, 0]), (cd (Tryz.f215.body.getD .skip) [1, 1, 1, 1, 1, 0])]) (N := (fun s w => s215_p2 K (s 0) (s 4) (s 5) w)) (N' := (s215_p2_den K)) (X := (fun i => (fun _ _ => False))) (X' := (fun i => (fun _ _ => False))) (R := s215_R K) (s := s) (w := w) (p := s215_p3 K (s 0) (s 4) (s 5) w) (q := s215_p3_den K s w) (fun s w h => s215_p2_ok K s w @h) (fun i => tr_id) (by kernel_rfl) (by kernel_rfl) @h
def s215_p4_d (K : Value → World → Prop) (t0 t4 t5 : Value) (w0 w : World) : Prop :=
  nck t0 (fun t21 _ =>
  fd 16 t21 (fun t22 _ =>
  ld1 t22 (fun t23 _ =>
  nck t0 (fun t25 _ =>
  fd 15 t25 (fun t26 _ =>
  ld1 t26 (fun t27 _ =>
  nck t0 (fun t29 _ =>
  fd 14 t29 (fun t30 _ =>
  ld1 t30 (fun t31 _ =>
  fd 7 t5 (fun t33 _ =>
  cl Tryz.prog 236 #[t23, t27, t31] (fun t32 w =>
  st1 t33 t32 (fun w =>
  s215_p3 K t0 t4 t5 w) w) w) w0) w0) w0) w0) w0) w0) w0) w0) w0) w0
def s215_p4 (K : Value → World → Prop) (t0 t4 t5 : Value) (w : World) : Prop := s215_p4_d K t0 t4 t5 (drw w) (drw w)
def s215_p4_den (K : Value → World → Prop) : (Nat → Value) → World → Prop := denL Tryz.prog [(cd (Tryz.f215.body.getD .skip) [1, 1, 1, 0])] (s215_p3_den K) (fun i => (fun _ _ => False)) (s215_R K)
theorem s215_p4_ok (K : Value → World → Prop) (s : Nat → Value) (w : World) (h : s215_p4 K (s 0) (s 4) (s 5) w) : Tr (s215_p4_den K s w) :=
  tr_draw (P := Tryz.prog) (ops := (ro (cd (Tryz.f215.body.getD .skip) [1, 1, 1, 0]))) (ms := [0, 1, 3, 7, 0, 16, 48, 112, 0, 256, 768, 1792, 4095, 8191, 16383]) (cs := [0, 1, 2, 3, 4, 5, 6, 7, 8, 9, 10, 11, 13]) (N := (fun s w => s215_p3 K (s 0) (s 4) (s 5) w)) (N' := (s215_p3_den K)) (s := s) (w := w) (p := s215_p4 K (s 0) (s 4) (s 5) w) (q := s215_p4_den K s w) (by kernel_rfl) (by kernel_rfl) (fun s w h => s215_p3_ok K s w @h) (by kernel_rfl) (by kernel_rfl) @h
def s215_p5 (K : Value → World → Prop) (t0 t3 t4 t15 : Value) (w : World) : Prop :=
  ifb t15
  (cl Tryz.prog 129 #[(.int .i64 11)] (fun t16 w =>
  stn 34 t4 t16 (fun w =>
  ldn 34 t4 (fun r0 _ =>
  K r0 w) w) w) w)
  (fd 0 t3 (fun t17 w =>
  ld1 t17 (fun t18 w =>
  bdq [(.int .i64 0), (.int .u8 0), (.int .i64 0), (.int .i64 0), (.int .i64 0), (.int .i64 0), (.int .i64 0), (.slice none 0 0), (.int .i64 0), (.int .i64 0), (.int .i64 0), (.slice none 0 0), (.int .i64 0), (.int .i64 0), (.int .i64 0), (.int .i64 0), (.int .i64 0), (.int .i64 0), (.slice none 0 0), (.int .i64 0), (.int .i64 0), (.int .i64 0), (.int .i64 0), (.int .i64 0), (.int .i64 0), (.int .i64 0), (.int .i64 0), (.int .i64 0), (.int .i64 0), (.int .i64 0), (.int .i64 0), (.int .i64 0), (.int .i64 0), (.int .i64 0)] [(some (1, 1), t18)] (fun t19 w =>
  nw 94 #[(.int .i64 0), (.int .u8 0), (.int .i64 0), (.int .i64 0), (.int .i64 0), (.int .i64 0), (.int .i64 0), (.slice none 0 0), (.int .i64 0), (.int .i64 0), (.int .i64 0), (.slice none 0 0), (.int .i64 0), (.int .i64 0), (.int .i64 0), (.int .i64 0), (.int .i64 0), (.int .i64 0), (.slice none 0 0), (.int .i64 0), (.int .i64 0), (.int .i64 0), (.int .i64 0), (.int .i64 0), (.int .i64 0), (.int .i64 0), (.int .i64 0), (.int .i64 0), (.int .i64 0), (.int .i64 0), (.int .i64 0), (.int .i64 0), (.int .i64 0), (.int .i64 0)] (fun t5 w =>
  stn 34 t5 t19 (fun w =>
  s215_p4 K t0 t4 t5 w) w) w) w) w) w)
def s215_p5_den (K : Value → World → Prop) : (Nat → Value) → World → Prop := denL Tryz.prog [(cd (Tryz.f215.body.getD .skip) [1, 0, 1]), (cd (Tryz.f215.body.getD .skip) [1, 1, 0])] (s215_p4_den K) (fun i => (fun _ _ => False)) (s215_R K)
theorem s215_p5_ok (K : Value → World → Prop) (s : Nat → Value) (w : World) (h : s215_p5 K (s 0) (s 3) (s 4) (s 15) w) : Tr (s215_p5_den K s w) :=
  tr_simple (P := Tryz.prog) (codes := [(cd (Tryz.f215.body.getD .skip) [1, 0, 1]), (cd (Tryz.f215.body.getD .skip) [1, 1, 0])]) (N := (fun s w => s215_p4 K (s 0) (s 4) (s 5) w)) (N' := (s215_p4_den K)) (X := (fun i => (fun _ _ => False))) (X' := (fun i => (fun _ _ => False))) (R := s215_R K) (s := s) (w := w) (p := s215_p5 K (s 0) (s 3) (s 4) (s 15) w) (q := s215_p5_den K s w) (fun s w h => s215_p4_ok K s w @h) (fun i => tr_id) (by kernel_rfl) (by kernel_rfl) @h
def s215_p6_d (K : Value → World → Prop) (t0 t3 t4 : Value) (w0 w : World) : Prop :=
  nck t0 (fun t7 _ =>
  fd 14 t7 (fun t8 _ =>
  ld1 t8 (fun t9 _ =>
  nck t0 (fun t11 _ =>
  fd 0 t11 (fun t12 _ =>
  fd 3 t12 (fun t13 _ =>
  ld1 t13 (fun t14 _ =>
  boI .geq t9 t14 (fun t15 _ =>
  s215_p5 K t0 t3 t4 t15 w) w0) w0) w0) w0) w0) w0) w0) w0
def s215_p6 (K : Value → World → Prop) (t0 t3 t4 : Value) (w : World) : Prop := s215_p6_d K t0 t3 t4 (drw w) (drw w)
def s215_p6_den (K : Value → World → Prop) : (Nat → Value) → World → Prop := denL Tryz.prog [(cd (Tryz.f215.body.getD .skip) [1, 0, 0])] (s215_p5_den K) (fun i => (fun _ _ => False)) (s215_R K)
theorem s215_p6_ok (K : Value → World → Prop) (s : Nat → Value) (w : World) (h : s215_p6 K (s 0) (s 3) (s 4) w) : Tr (s215_p6_den K s w) :=
  tr_draw (P := Tryz.prog) (ops := (ro (cd (Tryz.f215.body.getD .skip) [1, 0, 0]))) (ms := [0, 1, 3, 7, 0, 16, 48, 112, 240, 511]) (cs := [0, 1, 2, 3, 4, 5, 6, 7, 8, 9]) (N := (fun s w => s215_p5 K (s 0) (s 3) (s 4) (s 15) w)) (N' := (s215_p5_den K)) (s := s) (w := w) (p := s215_p6 K (s 0) (s 3) (s 4) w) (q := s215_p6_den K s w) (by kernel_rfl) (by kernel_rfl) (fun s w h => s215_p5_ok K s w @h) (by kernel_rfl) (by kernel_rfl) @h
def s215_p7 (K : Value → World → Prop) (t0 t1 : Value) (w : World) : Prop :=
  nw 52 (t1).cells (fun t3 w =>
  nw 94 #[(.int .i64 0), (.int .u8 0), (.int .i64 0), (.int .i64 0), (.int .i64 0), (.int .i64 0), (.int .i64 0), (.slice none 0 0), (.int .i64 0), (.int .i64 0), (.int .i64 0), (.slice none 0 0), (.int .i64 0), (.int .i64 0), (.int .i64 0), (.int .i64 0), (.int .i64 0), (.int .i64 0), (.slice none 0 0), (.int .i64 0), (.int .i64 0), (.int .i64 0), (.int .i64 0), (.int .i64 0), (.int .i64 0), (.int .i64 0), (.int .i64 0), (.int .i64 0), (.int .i64 0), (.int .i64 0), (.int .i64 0), (.int .i64 0), (.int .i64 0), (.int .i64 0)] (fun t4 w =>
  s215_p6 K t0 t3 t4 w) w) w
def s215_p7_den (K : Value → World → Prop) : (Nat → Value) → World → Prop := denL Tryz.prog [(cd (Tryz.f215.body.getD .skip) [0])] (s215_p6_den K) (fun i => (fun _ _ => False)) (s215_R K)
theorem s215_p7_ok (K : Value → World → Prop) (s : Nat → Value) (w : World) (h : s215_p7 K (s 0) (s 1) w) : Tr (s215_p7_den K s w) :=
  tr_simple (P := Tryz.prog) (codes := [(cd (Tryz.f215.body.getD .skip) [0])]) (N := (fun s w => s215_p6 K (s 0) (s 3) (s 4) w)) (N' := (s215_p6_den K)) (X := (fun i => (fun _ _ => False))) (X' := (fun i => (fun _ _ => False))) (R := s215_R K) (s := s) (w := w) (p := s215_p7 K (s 0) (s 1) w) (q := s215_p7_den K s w) (fun s w h => s215_p6_ok K s w @h) (fun i => tr_id) (by kernel_rfl) (by kernel_rfl) @h
/-- the call, from the text -/
theorem c215 (t0 t1 : Value) {K : Value → World → Prop} {w : World} (h : s215_p7 K t0 t1 w) : cl Tryz.prog 215 #[t0, t1] K w :=
  calls_of_tr (c := (Tryz.f215.body.getD .skip)) (fn := Tryz.f215) (q := s215_p7_den K (st0 #[t0, t1]) w) Tryz.func215 (by kernel_rfl) (by kernel_rfl) (Nat.le_of_ble_eq_true (by kernel_rfl)) (by kernel_rfl) (by kernel_rfl) (s215_p7_ok K (st0 #[t0, t1]) w @h)

/-! ### function 176 : (*e2e.engine.Engine).validate -/
def s176_R (K : Value → World → Prop) (s : Nat → Value) (w : World) : Prop := retv Tryz.prog s Tryz.f176.results.toList (fun vs => K (pack vs) w) w
def s176_p1 (K : Value → World → Prop) (w : World) : Prop :=
  K (.int .i64 0) w
def s176_p1_den (K : Value → World → Prop) : (Nat → Value) → World → Prop := denL Tryz.prog [(cd (Tryz.f176.body.getD .skip) [1, 1, 0]), (cd (Tryz.f176.body.getD .skip) [1, 1, 1])] (fun _ _ => False) (fun i => (fun _ _ => False)) (s176_R K)
theorem s176_p1_ok (K : Value → World → Prop) (s : Nat → Value) (w : World) (h : s176_p1 K w) : Tr (s176_p1_den K s w) :=
  tr_simple (P := Tryz.prog) (codes := [(cd (Tryz.f176.body.getD .skip) [1, 1, 0]), (cd (Tryz.f176.body.getD .skip) [1, 1, 1])]) (N := (fun _ _ => False)) (N' := (fun _ _ => False)) (X := (fun i => (fun _ _ => False))) (X' := (fun i => (fun _ _ => False))) (R := s176_R K) (s := s) (w := w) (p := s176_p1 K w) (q := s176_p1_den K s w) tr_id (fun i => tr_id) (by kernel_rfl) (by kernel_rfl) @h
def s176_p2 (K : Value → World → Prop) (t0 t1 : Value) (w : World) : Prop :=
  nw 52 (t1).cells (fun t3 w =>
  fd 0 t3 (fun t6 w =>
  ld1 t6 (fun t7 w =>
  boI .eql t7 (.int .u8 1) (fun t9 w =>
  ifb t9
  (ifb t9
  (fd 4 t3 (fun t12 w =>
  ld1 t12 (fun t13 w =>
  fd 5 t3 (fun t14 w =>
  ld1 t14 (fun t15 w =>
  cl Tryz.prog 202 #[t0, t13, t15] (fun t16 w =>
  boI .neq t16 (.int .i64 0) (fun t18 w =>
  ifb t18
  (K t16 w)
  (fd 7 t3 (fun t21 w =>
  ld1 t21 (fun t22 w =>
  cl Tryz.prog 203 #[t0, t22] (fun t23 w =>
  K t23 w) w) w) w)) w) w) w) w) w) w)
  (boI .eql t7 (.int .u8 5) (fun t25 w =>
  ifb t25
  (fd 7 t3 (fun t27 w =>
  ld1 t27 (fun t28 w =>
  cl Tryz.prog 203 #[t0, t28] (fun t29 w =>
  K t29 w) w) w) w)
  (boI .eql t7 (.int .u8 6) (fun t31 w =>
  ifb t31
  (ifb t31
  (fd 2 t3 (fun t34 w =>
  ld1 t34 (fun t35 w =>
  cl Tryz.prog 204 #[t0, t35] (fun t36 w =>
  un .not t36 (fun t37 w =>
  ifb t37
  (K (.int .i64 13) w)
  (fd 4 t3 (fun t39 w =>
  ld1 t39 (fun t40 w =>
  fd 5 t3 (fun t41 w =>
  ld1 t41 (fun t42 w =>
  cl Tryz.prog 202 #[t0, t40, t42] (fun t43 w =>
  K t43 w) w) w) w) w) w)) w) w) w) w)
  (boI .eql t7 (.int .u8 18) (fun t45 w =>
  ifb t45
  (fd 2 t3 (fun t47 w =>
  ld1 t47 (fun t48 w =>
  cl Tryz.prog 204 #[t0, t48] (fun t49 w =>
  un .not t49 (fun t50 w =>
  ifb t50
  (K (.int .i64 13) w)
  (fd 3 t3 (fun t52 w =>
  ld1 t52 (fun t53 w =>
  cl Tryz.prog 205 #[t0, t53] (fun t54 w =>
  un .not t54 (fun t55 w =>
  ifb t55
  (K (.int .i64 3) w)
  (s176_p1 K w)) w) w) w) w)) w) w) w) w)
  (boI .eql t7 (.int .u8 19) (fun t57 w =>
  ifb t57
  (fd 2 t3 (fun t59 w =>
  ld1 t59 (fun t60 w =>
  cl Tryz.prog 204 #[t0, t60] (fun t61 w =>
  un .not t61 (fun t62 w =>
  ifb t62
  (K (.int .i64 13) w)
  (s176_p1 K w)) w) w) w) w)
  (s176_p1 K w)) w)) w))
  (boI .eql t7 (.int .u8 21) (fun t32 w =>
  ifb t32
  (fd 2 t3 (fun t34_2 w =>
  ld1 t34_2 (fun t35_2 w =>
  cl Tryz.prog 204 #[t0, t35_2] (fun t36_2 w =>
  un .not t36_2 (fun t37_2 w =>
  ifb t37_2
  (K (.int .i64 13) w)
  (fd 4 t3 (fun t39_2 w =>
  ld1 t39_2 (fun t40_2 w =>
  fd 5 t3 (fun t41_2 w =>
  ld1 t41_2 (fun t42_2 w =>
  cl Tryz.prog 202 #[t0, t40_2, t42_2] (fun t43_2 w =>
  K t43_2 w) w) w) w) w) w)) w) w) w) w)
  (boI .eql t7 (.int .u8 18) (fun t45_2 w =>
  ifb t45_2
  (fd 2 t3 (fun t47_2 w =>
  ld1 t47_2 (fun t48_2 w =>
  cl Tryz.prog 204 #[t0, t48_2] (fun t49_2 w =>
  un .not t49_2 (fun t50_2 w =>
  ifb t50_2
  (K (.int .i64 13) w)
  (fd 3 t3 (fun t52_2 w =>
  ld1 t52_2 (fun t53_2 w =>
  cl Tryz.prog 205 #[t0, t53_2] (fun t54_2 w =>
  un .not t54_2 (fun t55_2 w =>
  ifb t55_2
  (K (.int .i64 3) w)
  (s176_p1 K w)) w) w) w) w)) w) w) w) w)
  (boI .eql t7 (.int .u8 19) (fun t57_2 w =>
  ifb t57_2
  (fd 2 t3 (fun t59_2 w =>
  ld1 t59_2 (fun t60_2 w =>
  cl Tryz.prog 204 #[t0, t60_2] (fun t61_2 w =>
  un .not t61_2 (fun t62_2 w =>
  ifb t62_2
  (K (.int .i64 13) w)
  (s176_p1 K w)) w) w) w) w)
  (s176_p1 K w)) w)) w)) w)) w)) w))
  (boI .eql t7 (.int .u8 22) (fun t10 w =>
  ifb t10
  (fd 4 t3 (fun t12_2 w =>
  ld1 t12_2 (fun t13_2 w =>
  fd 5 t3 (fun t14_2 w =>
  ld1 t14_2 (fun t15_2 w =>
  cl Tryz.prog 202 #[t0, t13_2, t15_2] (fun t16_2 w =>
  boI .neq t16_2 (.int .i64 0) (fun t18_2 w =>
  ifb t18_2
  (K t16_2 w)
  (fd 7 t3 (fun t21_2 w =>
  ld1 t21_2 (fun t22_2 w =>
  cl Tryz.prog 203 #[t0, t22_2] (fun t23_2 w =>
  K t23_2 w) w) w) w)) w) w) w) w) w) w)
  (boI .eql t7 (.int .u8 5) (fun t25_2 w =>
  ifb t25_2
  (fd 7 t3 (fun t27_2 w =>
  ld1 t27_2 (fun t28_2 w =>
  cl Tryz.prog 203 #[t0, t28_2] (fun t29_2 w =>
  K t29_2 w) w) w) w)
  (boI .eql t7 (.int .u8 6) (fun t31_2 w =>
  ifb t31_2
  (ifb t31_2
  (fd 2 t3 (fun t34_3 w =>
  ld1 t34_3 (fun t35_3 w =>
  cl Tryz.prog 204 #[t0, t35_3] (fun t36_3 w =>
  un .not t36_3 (fun t37_3 w =>
  ifb t37_3
  (K (.int .i64 13) w)
  (fd 4 t3 (fun t39_3 w =>
  ld1 t39_3 (fun t40_3 w =>
  fd 5 t3 (fun t41_3 w =>
  ld1 t41_3 (fun t42_3 w =>
  cl Tryz.prog 202 #[t0, t40_3, t42_3] (fun t43_3 w =>
  K t43_3 w) w) w) w) w) w)) w) w) w) w)
  (boI .eql t7 (.int .u8 18) (fun t45_3 w =>
  ifb t45_3
  (fd 2 t3 (fun t47_3 w =>
  ld1 t47_3 (fun t48_3 w =>
  cl Tryz.prog 204 #[t0, t48_3] (fun t49_3 w =>
  un .not t49_3 (fun t50_3 w =>
  ifb t50_3
  (K (.int .i64 13) w)
  (fd 3 t3 (fun t52_3 w =>
  ld1 t52_3 (fun t53_3 w =>
  cl Tryz.prog 205 #[t0, t53_3] (fun t54_3 w =>
  un .not t54_3 (fun t55_3 w =>
  ifb t55_3
  (K (.int .i64 3) w)
  (s176_p1 K w)) w) w) w) w)) w) w) w) w)
  (boI .eql t7 (.int .u8 19) (fun t57_3 w =>
  ifb t57_3
  (fd 2 t3 (fun t59_3 w =>
  ld1 t59_3 (fun t60_3 w =>
  cl Tryz.prog 204 #[t0, t60_3] (fun t61_3 w =>
  un .not t61_3 (fun t62_3 w =>
  ifb t62_3
  (K (.int .i64 13) w)
  (s176_p1 K w)) w) w) w) w)
  (s176_p1 K w)) w)) w))
  (boI .eql t7 (.int .u8 21) (fun t32_2 w =>
  ifb t32_2
  (fd 2 t3 (fun t34_4 w =>
  ld1 t34_4 (fun t35_4 w =>
  cl Tryz.prog 204 #[t0, t35_4] (fun t36_4 w =>
  un .not t36_4 (fun t37_4 w =>
  ifb t37_4
  (K (.int .i64 13) w)
  (fd 4 t3 (fun t39_4 w =>
  ld1 t39_4 (fun t40_4 w =>
  fd 5 t3 (fun t41_4 w =>
  ld1 t41_4 (fun t42_4 w =>
  cl Tryz.prog 202 #[t0, t40_4, t42_4] (fun t43_4 w =>
  K t43_4 w) w) w) w) w) w)) w) w) w) w)
  (boI .eql t7 (.int .u8 18) (fun t45_4 w =>
  ifb t45_4
  (fd 2 t3 (fun t47_4 w =>
  ld1 t47_4 (fun t48_4 w =>
  cl Tryz.prog 204 #[t0, t48_4] (fun t49_4 w =>
  un .not t49_4 (fun t50_4 w =>
  ifb t50_4
  (K (.int .i64 13) w)
  (fd 3 t3 (fun t52_4 w =>
  ld1 t52_4 (fun t53_4 w =>
  cl Tryz.prog 205 #[t0, t53_4] (fun t54_4 w =>
  un .not t54_4 (fun t55_4 w =>
  ifb t55_4
  (K (.int .i64 3) w)
  (s176_p1 K w)) w) w) w) w)) w) w) w) w)
  (boI .eql t7 (.int .u8 19) (fun t57_4 w =>
  ifb t57_4
  (fd 2 t3 (fun t59_4 w =>
  ld1 t59_4 (fun t60_4 w =>
  cl Tryz.prog 204 #[t0, t60_4] (fun t61_4 w =>
  un .not t61_4 (fun t62_4 w =>
  ifb t62_4
  (K (.int .i64 13) w)
  (s176_p1 K w)) w) w) w) w)
  (s176_p1 K w)) w)) w)) w)) w)) w)) w)) w) w) w) w
def s176_p2_den (K : Value → World → Prop) : (Nat → Value) → World → Prop := denL Tryz.prog [(cd (Tryz.f176.body.getD .skip) [0]), (cd (Tryz.f176.body.getD .skip) [1, 0, 0]), (cd (Tryz.f176.body.getD .skip) [1, 0, 1])] (s176_p1_den K) (fun i => (fun _ _ => False)) (s176_R K)
theorem s176_p2_ok (K : Value → World → Prop) (s : Nat → Value) (w : World) (h : s176_p2 K (s 0) (s 1) w) : Tr (s176_p2_den K s w) :=
  tr_simple (P := Tryz.prog) (codes := [(cd (Tryz.f176.body.getD .skip) [0]), (cd (Tryz.f176.body.getD .skip) [1, 0, 0]), (cd (Tryz.f176.body.getD .skip) [1, 0, 1])]) (N := (fun s w => s176_p1 K w)) (N' := (s176_p1_den K)) (X := (fun i => (fun _ _ => False))) (X' := (fun i => (fun _ _ => False))) (R := s176_R K) (s := s) (w := w) (p := s176_p2 K (s 0) (s 1) w) (q := s176_p2_den K s w) (fun s w h => s176_p1_ok K s w @h) (fun i => tr_id) (by kernel_rfl) (by kernel_rfl) @h
/-- the call, from the text -/
theorem c176 (t0 t1 : Value) {K : Value → World → Prop} {w : World} (h : s176_p2 K t0 t1 w) : cl Tryz.prog 176 #[t0, t1] K w :=
  calls_of_tr (c := (Tryz.f176.body.getD .skip)) (fn := Tryz.f176) (q := s176_p2_den K (st0 #[t0, t1]) w) Tryz.func176 (by kernel_rfl) (by kernel_rfl) (Nat.le_of_ble_eq_true (by kernel_rfl)) (by kernel_rfl) (by kernel_rfl) (s176_p2_ok K (st0 #[t0, t1]) w @h)

/-! ### function 204 : (*e2e.engine.Engine).hasAttraction -/
def s204_R (K : Value → World → Prop) (s : Nat → Value) (w : World) : Prop := retv Tryz.prog s Tryz.f204.results.toList (fun vs => K (pack vs) w) w
def s204_p1 (K : Value → World → Prop) (t0 t1 : Value) (w : World) : Prop :=
  boI .geq t1 (.int .i64 0) (fun t6 w =>
  gd t6 true (fun K w => K t1 w) (fun t8 w =>
  gd t6 true (fun K w => K t0 w) (fun t9 w =>
  gd t6 true (nck t9) (fun t10 w =>
  gd t6 true (fd 0 t10) (fun t11 w =>
  gd t6 true (fd 0 t11) (fun t12 w =>
  gd t6 true (ld1 t12) (fun t13 w =>
  gd t6 true (lnS t13) (fun t14 w =>
  gd t6 true (boI .lss t8 t14) (fun t15 w =>
  pk t6 t15 (.bool false) (fun t16 w =>
  K t16 w) w) w) w) w) w) w) w) w) w) w
def s204_p1_den (K : Value → World → Prop) : (Nat → Value) → World → Prop := denL Tryz.prog [(cd (Tryz.f204.body.getD .skip) [0]), (cd (Tryz.f204.body.getD .skip) [1, 0]), (cd (Tryz.f204.body.getD .skip) [1, 1])] (fun _ _ => False) (fun i => (fun _ _ => False)) (s204_R K)
theorem s204_p1_ok (K : Value → World → Prop) (s : Nat → Value) (w : World) (h : s204_p1 K (s 0) (s 1) w) : Tr (s204_p1_den K s w) :=
  tr_simple (P := Tryz.prog) (codes := [(cd (Tryz.f204.body.getD .skip) [0]), (cd (Tryz.f204.body.getD .skip) [1, 0]), (cd (Tryz.f204.body.getD .skip) [1, 1])]) (N := (fun _ _ => False)) (N' := (fun _ _ => False)) (X := (fun i => (fun _ _ => False))) (X' := (fun i => (fun _ _ => False))) (R := s204_R K) (s := s) (w := w) (p := s204_p1 K (s 0) (s 1) w) (q := s204_p1_den K s w) tr_id (fun i => tr_id) (by kernel_rfl) (by kernel_rfl) @h
/-- the call, from the text -/
theorem c204 (t0 t1 : Value) {K : Value → World → Prop} {w : World} (h : s204_p1 K t0 t1 w) : cl Tryz.prog 204 #[t0, t1] K w :=
  calls_of_tr (c := (Tryz.f204.body.getD .skip)) (fn := Tryz.f204) (q := s204_p1_den K (st0 #[t0, t1]) w) Tryz.func204 (by kernel_rfl) (by kernel_rfl) (Nat.le_of_ble_eq_true (by kernel_rfl)) (by kernel_rfl) (by kernel_rfl) (s204_p1_ok K (st0 #[t0, t1]) w @h)

/-! ### function 205 : (*e2e.engine.Engine).isOpen -/
def s205_R (K : Value → World → Prop) (s : Nat → Value) (w : World) : Prop := retv Tryz.prog s Tryz.f205.results.toList (fun vs => K (pack vs) w) w
def s205_p1 (K : Value → World → Prop) (t4 : Value) (w : World) : Prop :=
  K t4 w
def s205_p1_den (K : Value → World → Prop) : (Nat → Value) → World → Prop := denL Tryz.prog [(cd (Tryz.f205.body.getD .skip) [1, 1])] (fun _ _ => False) (fun i => (fun _ _ => False)) (s205_R K)
theorem s205_p1_ok (K : Value → World → Prop) (s : Nat → Value) (w : World) (h : s205_p1 K (s 4) w) : Tr (s205_p1_den K s w) :=
  tr_simple (P := Tryz.prog) (codes := [(cd (Tryz.f205.body.getD .skip) [1, 1])]) (N := (fun _ _ => False)) (N' := (fun _ _ => False)) (X := (fun i => (fun _ _ => False))) (X' := (fun i => (fun _ _ => False))) (R := s205_R K) (s := s) (w := w) (p := s205_p1 K (s 4) w) (q := s205_p1_den K s w) tr_id (fun i => tr_id) (by kernel_rfl) (by kernel_rfl) @h
def s205_p2_d (K : Value → World → Prop) (t0 t1 : Value) (w0 w : World) : Prop :=
  nck t0 (fun t7 _ =>
  fd 14 t7 (fun t8 _ =>
  ld1 t8 (fun t9 _ =>
  boI .geq t1 t9 (fun t10 _ =>
  gd t10 true (fun K w => K t1 w) (fun t12 _ =>
  gd t10 true (fun K w => K t0 w) (fun t13 _ =>
  gd t10 true (nck t13) (fun t14 _ =>
  gd t10 true (fd 14 t14) (fun t15 _ =>
  gd t10 true (ld1 t15) (fun t16 _ =>
  gd t10 true (boI .sub t12 t16) (fun t17 _ =>
  gd t10 true (fun K w => K t0 w) (fun t18 _ =>
  gd t10 true (nck t18) (fun t19 _ =>
  gd t10 true (fd 0 t19) (fun t20 _ =>
  gd t10 true (fd 2 t20) (fun t21 _ =>
  gd t10 true (ld1 t21) (fun t22 _ =>
  gd t10 true (boI .lss t17 t22) (fun t23 _ =>
  pk t10 t23 (.bool false) (fun t24 _ =>
  s205_p1 K t24 w) w0) w0) w0) w0) w0) w0) w0) w0) w0) w0) w0) w0) w0) w0) w0) w0) w0
def s205_p2 (K : Value → World → Prop) (t0 t1 : Value) (w : World) : Prop := s205_p2_d K t0 t1 (drw w) (drw w)
def s205_p2_den (K : Value → World → Prop) : (Nat → Value) → World → Prop := denL Tryz.prog [(cd (Tryz.f205.body.getD .skip) [1, 0])] (s205_p1_den K) (fun i => (fun _ _ => False)) (s205_R K)
theorem s205_p2_ok (K : Value → World → Prop) (s : Nat → Value) (w : World) (h : s205_p2 K (s 0) (s 1) w) : Tr (s205_p2_den K s w) :=
  tr_draw (P := Tryz.prog) (ops := (ro (cd (Tryz.f205.body.getD .skip) [1, 0]))) (ms := [0, 0, 2, 6, 14, 31, 63, 127, 127, 383, 895, 1919, 4095, 127, 8319, 24703, 57471, 123007, 262143, 524287, 1048575]) (cs := [0, 1, 2, 3, 4, 5, 6, 7, 8, 9, 10, 11, 12, 13, 14, 15, 16, 17, 18, 19, 20]) (N := (fun s w => s205_p1 K (s 4) w)) (N' := (s205_p1_den K)) (s := s) (w := w) (p := s205_p2 K (s 0) (s 1) w) (q := s205_p2_den K s w) (by kernel_rfl) (by kernel_rfl) (fun s w h => s205_p1_ok K s w @h) (by kernel_rfl) (by kernel_rfl) @h
def s205_p3 (K : Value → World → Prop) (t0 t1 : Value) (w : World) : Prop :=
  s205_p2 K t0 t1 w
def s205_p3_den (K : Value → World → Prop) : (Nat → Value) → World → Prop := denL Tryz.prog [(cd (Tryz.f205.body.getD .skip) [0])] (s205_p2_den K) (fun i => (fun _ _ => False)) (s205_R K)
theorem s205_p3_ok (K : Value → World → Prop) (s : Nat → Value) (w : World) (h : s205_p3 K (s 0) (s 1) w) : Tr (s205_p3_den K s w) :=
  tr_simple (P := Tryz.prog) (codes := [(cd (Tryz.f205.body.getD .skip) [0])]) (N := (fun s w => s205_p2 K (s 0) (s 1) w)) (N' := (s205_p2_den K)) (X := (fun i => (fun _ _ => False))) (X' := (fun i => (fun _ _ => False))) (R := s205_R K) (s := s) (w := w) (p := s205_p3 K (s 0) (s 1) w) (q := s205_p3_den K s w) (fun s w h => s205_p2_ok K s w @h) (fun i => tr_id) (by kernel_rfl) (by kernel_rfl) @h
/-- the call, from the text -/
theorem c205 (t0 t1 : Value) {K : Value → World → Prop} {w : World} (h : s205_p3 K t0 t1 w) : cl Tryz.prog 205 #[t0, t1] K w :=
  calls_of_tr (c := (Tryz.f205.body.getD .skip)) (fn := Tryz.f205) (q := s205_p3_den K (st0 #[t0, t1]) w) Tryz.func205 (by kernel_rfl) (by kernel_rfl) (Nat.le_of_ble_eq_true (by kernel_rfl)) (by kernel_rfl) (by kernel_rfl) (s205_p3_ok K (st0 #[t0, t1]) w @h)

/-! ### function 202 : (*e2e.engine.Engine).validParty -/
def s202_R (K : Value → World → Prop) (s : Nat → Value) (w : World) : Prop := retv Tryz.prog s Tryz.f202.results.toList (fun vs => K (pack vs) w) w
def s202_p1 (K : Value → World → Prop) (t0 t1 t2 : Value) (w : World) : Prop :=
  boI .lss t1 (.int .i64 0) (fun t8 w =>
  gd t8 false (fun K w => K t1 w) (fun t10 w =>
  gd t8 false (boI .geq t10 (.int .i64 3)) (fun t11 w =>
  pk t8 (.bool true) t11 (fun t12 w =>
  ifb t12
  (K (.int .i64 12) w)
  (boI .lss t2 (.int .i64 1) (fun t14 w =>
  gd t14 false (fun K w => K t2 w) (fun t16 w =>
  gd t14 false (fun K w => K t0 w) (fun t17 w =>
  gd t14 false (nck t17) (fun t18 w =>
  gd t14 false (fd 0 t18) (fun t19 w =>
  gd t14 false (fd 4 t19) (fun t20 w =>
  gd t14 false (ld1 t20) (fun t21 w =>
  gd t14 false (boI .gtr t16 t21) (fun t22 w =>
  pk t14 (.bool true) t22 (fun t23 w =>
  ifb t23
  (K (.int .i64 4) w)
  (K (.int .i64 0) w)) w) w) w) w) w) w) w) w) w)) w) w) w) w
def s202_p1_den (K : Value → World → Prop) : (Nat → Value) → World → Prop := denL Tryz.prog [(cd (Tryz.f202.body.getD .skip) [0]), (cd (Tryz.f202.body.getD .skip) [1, 0, 0]), (cd (Tryz.f202.body.getD .skip) [1, 0, 1]), (cd (Tryz.f202.body.getD .skip) [1, 1, 0, 0]), (cd (Tryz.f202.body.getD .skip) [1, 1, 0, 1]), (cd (Tryz.f202.body.getD .skip) [1, 1, 1, 0]), (cd (Tryz.f202.body.getD .skip) [1, 1, 1, 1])] (fun _ _ => False) (fun i => (fun _ _ => False)) (s202_R K)
theorem s202_p1_ok (K : Value → World → Prop) (s : Nat → Value) (w : World) (h : s202_p1 K (s 0) (s 1) (s 2) w) : Tr (s202_p1_den K s w) :=
  tr_simple (P := Tryz.prog) (codes := [(cd (Tryz.f202.body.getD .skip) [0]), (cd (Tryz.f202.body.getD .skip) [1, 0, 0]), (cd (Tryz.f202.body.getD .skip) [1, 0, 1]), (cd (Tryz.f202.body.getD .skip) [1, 1, 0, 0]), (cd (Tryz.f202.body.getD .skip) [1, 1, 0, 1]), (cd (Tryz.f202.body.getD .skip) [1, 1, 1, 0]), (cd (Tryz.f202.body.getD .skip) [1, 1, 1, 1])]) (N := (fun _ _ => False)) (N' := (fun _ _ => False)) (X := (fun i => (fun _ _ => False))) (X' := (fun i => (fun _ _ => False))) (R := s202_R K) (s := s) (w := w) (p := s202_p1 K (s 0) (s 1) (s 2) w) (q := s202_p1_den K s w) tr_id (fun i => tr_id) (by kernel_rfl) (by kernel_rfl) @h
/-- the call, from the text -/
theorem c202 (t0 t1 t2 : Value) {K : Value → World → Prop} {w : World} (h : s202_p1 K t0 t1 t2 w) : cl Tryz.prog 202 #[t0, t1, t2] K w :=
  calls_of_tr (c := (Tryz.f202.body.getD .skip)) (fn := Tryz.f202) (q := s202_p1_den K (st0 #[t0, t1, t2]) w) Tryz.func202 (by kernel_rfl) (by kernel_rfl) (Nat.le_of_ble_eq_true (by kernel_rfl)) (by kernel_rfl) (by kernel_rfl) (s202_p1_ok K (st0 #[t0, t1, t2]) w @h)

/-! ### function 203 : (*e2e.engine.Engine).validLegs -/
def s203_R (K : Value → World → Prop) (s : Nat → Value) (w : World) : Prop := retv Tryz.prog s Tryz.f203.results.toList (fun vs => K (pack vs) w) w
def s203_p1 (K : Value → World → Prop) (w : World) : Prop :=
  K (.int .i64 0) w
def s203_p1_den (K : Value → World → Prop) : (Nat → Value) → World → Prop := denL Tryz.prog [(cd (Tryz.f203.body.getD .skip) [1, 1, 1, 1, 0]), (cd (Tryz.f203.body.getD .skip) [1, 1, 1, 1, 1])] (fun _ _ => False) (fun i => (fun _ _ => False)) (s203_R K)
theorem s203_p1_ok (K : Value → World → Prop) (s : Nat → Value) (w : World) (h : s203_p1 K w) : Tr (s203_p1_den K s w) :=
  tr_simple (P := Tryz.prog) (codes := [(cd (Tryz.f203.body.getD .skip) [1, 1, 1, 1, 0]), (cd (Tryz.f203.body.getD .skip) [1, 1, 1, 1, 1])]) (N := (fun _ _ => False)) (N' := (fun _ _ => False)) (X := (fun i => (fun _ _ => False))) (X' := (fun i => (fun _ _ => False))) (R := s203_R K) (s := s) (w := w) (p := s203_p1 K w) (q := s203_p1_den K s w) tr_id (fun i => tr_id) (by kernel_rfl) (by kernel_rfl) @h
def s203_p2 (K : Value → World → Prop) (B1 : List Value → World → Prop) (t0 t34 t35 t36 : Value) (w : World) : Prop :=
  boI .lss t36 t35 (fun t37 w =>
  ifb t37
  (ixs 2 t34 t36 (fun t38 w =>
  ldn 2 t38 (fun t39 w =>
  nw 88 #[(.int .i64 0), (.int .i64 0)] (fun t8 w =>
  stn 2 t8 t39 (fun w =>
  fd 1 t8 (fun t41 w =>
  ld1 t41 (fun t42 w =>
  cl Tryz.prog 205 #[t0, t42] (fun t43 w =>
  un .not t43 (fun t44 w =>
  ifb t44
  (K (.int .i64 3) w)
  (boI .add t36 (.int .i64 1) (fun t45 w =>
  B1 [t0, t34, t35, t45] w) w)) w) w) w) w) w) w) w) w)
  (s203_p1 K w)) w
def s203_p2_den (K : Value → World → Prop) (M1 : (Nat → Value) → World → Prop) : (Nat → Value) → World → Prop := denL Tryz.prog [(cd (Tryz.f203.body.getD .skip) [1, 1, 1, 0, 1, 0, 0, 0]), (cd (Tryz.f203.body.getD .skip) [1, 1, 1, 0, 1, 0, 0, 1, 0]), (cd (Tryz.f203.body.getD .skip) [1, 1, 1, 0, 1, 0, 0, 1, 1, 0]), (cd (Tryz.f203.body.getD .skip) [1, 1, 1, 0, 1, 0, 0, 1, 1, 1])] M1 (fun i => (bif Nat.beq i 2 then (s203_p1_den K) else (fun _ _ => False))) (s203_R K)
theorem s203_p2_ok (K : Value → World → Prop) (B1 : List Value → World → Prop) (s : Nat → Value) (w : World) (h : s203_p2 K B1 (s 0) (s 34) (s 35) (s 36) w) : Tr (s203_p2_den K (fun s w => B1 [s 0, s 34, s 35, s 36] w) s w) :=
  tr_simple (P := Tryz.prog) (codes := [(cd (Tryz.f203.body.getD .skip) [1, 1, 1, 0, 1, 0, 0, 0]), (cd (Tryz.f203.body.getD .skip) [1, 1, 1, 0, 1, 0, 0, 1, 0]), (cd (Tryz.f203.body.getD .skip) [1, 1, 1, 0, 1, 0, 0, 1, 1, 0]), (cd (Tryz.f203.body.getD .skip) [1, 1, 1, 0, 1, 0, 0, 1, 1, 1])]) (N := (fun s w => B1 [s 0, s 34, s 35, s 36] w)) (N' := (fun s w => B1 [s 0, s 34, s 35, s 36] w)) (X := (fun i => (bif Nat.beq i 2 then (fun s w => s203_p1 K w) else (fun _ _ => False)))) (X' := (fun i => (bif Nat.beq i 2 then (s203_p1_den K) else (fun _ _ => False)))) (R := s203_R K) (s := s) (w := w) (p := s203_p2 K B1 (s 0) (s 34) (s 35) (s 36) w) (q := s203_p2_den K (fun s w => B1 [s 0, s 34, s 35, s 36] w) s w) tr_id (fun i => (tr_bif (fun s w h => s203_p1_ok K s w @h) tr_id)) (by kernel_rfl) (by kernel_rfl) @h
def s203_p3_F (K : Value → World → Prop) (B1 : List Value → World → Prop) (l : List Value) (w : World) : Prop :=
  match l with
  | [t0, t34, t35, t36] => s203_p2 K B1 t0 t34 t35 t36 w
  | _ => False
theorem s203_p3_Fe {K : Value → World → Prop} {B1 : List Value → World → Prop} {t0 t34 t35 t36 : Value} {w : World} : s203_p3_F K B1 [t0, t34, t35, t36] w = s203_p2 K B1 t0 t34 t35 t36 w := by kernel_rfl
def s203_p3 (K : Value → World → Prop) (t0 t34 t35 t36 : Value) (w : World) : Prop :=
  LoopL (s203_p3_F K) [t0, t34, t35, t36] w
def s203_p3_den (K : Value → World → Prop) : (Nat → Value) → World → Prop := fun s w => LoopP (fun M1 s w => s203_p2_den K M1 s w) s w
theorem s203_p3_ok (K : Value → World → Prop) (s : Nat → Value) (w : World) (h : s203_p3 K (s 0) (s 34) (s 35) (s 36) w) : Tr (s203_p3_den K s w) :=
  tr_loop (G := fun N' s w => s203_p2_den K N' s w) (F := s203_p3_F K) (sel := fun s => [s 0, s 34, s 35, s 36]) (s := s) (w := w) (p := s203_p3 K (s 0) (s 34) (s 35) (s 36) w) (q := s203_p3_den K s w) (fun B s w h => s203_p2_ok K B s w @h) (by kernel_rfl) (by kernel_rfl) @h
def s203_p4 (K : Value → World → Prop) (t0 t1 : Value) (w : World) : Prop :=
  lnS t1 (fun t35 w =>
  s203_p3 K t0 t1 t35 (.int .i64 0) w) w
def s203_p4_den (K : Value → World → Prop) : (Nat → Value) → World → Prop := denL Tryz.prog [(cd (Tryz.f203.body.getD .skip) [1, 1, 1, 0, 0])] (s203_p3_den K) (fun i => (fun _ _ => False)) (s203_R K)
theorem s203_p4_ok (K : Value → World → Prop) (s : Nat → Value) (w : World) (h : s203_p4 K (s 0) (s 1) w) : Tr (s203_p4_den K s w) :=
  tr_simple (P := Tryz.prog) (codes := [(cd (Tryz.f203.body.getD .skip) [1, 1, 1, 0, 0])]) (N := (fun s w => s203_p3 K (s 0) (s 34) (s 35) (s 36) w)) (N' := (s203_p3_den K)) (X := (fun i => (fun _ _ => False))) (X' := (fun i => (fun _ _ => False))) (R := s203_R K) (s := s) (w := w) (p := s203_p4 K (s 0) (s 1) w) (q := s203_p4_den K s w) (fun s w h => s203_p3_ok K s w @h) (fun i => tr_id) (by kernel_rfl) (by kernel_rfl) @h
def s203_p5 (K : Value → World → Prop) (B1 : List Value → World → Prop) (t0 t1 t22 t23 t24 : Value) (w : World) : Prop :=
  boI .lss t24 t23 (fun t25 w =>
  ifb t25
  (ixs 2 t22 t24 (fun t26 w =>
  ldn 2 t26 (fun t27 w =>
  nw 88 #[(.int .i64 0), (.int .i64 0)] (fun t6 w =>
  stn 2 t6 t27 (fun w =>
  fd 0 t6 (fun t29 w =>
  ld1 t29 (fun t30 w =>
  cl Tryz.prog 204 #[t0, t30] (fun t31 w =>
  un .not t31 (fun t32 w =>
  ifb t32
  (K (.int .i64 13) w)
  (boI .add t24 (.int .i64 1) (fun t33 w =>
  B1 [t0, t1, t22, t23, t33] w) w)) w) w) w) w) w) w) w) w)
  (s203_p4 K t0 t1 w)) w
def s203_p5_den (K : Value → World → Prop) (M1 : (Nat → Value) → World → Prop) : (Nat → Value) → World → Prop := denL Tryz.prog [(cd (Tryz.f203.body.getD .skip) [1, 1, 0, 1, 0, 0, 0]), (cd (Tryz.f203.body.getD .skip) [1, 1, 0, 1, 0, 0, 1, 0]), (cd (Tryz.f203.body.getD .skip) [1, 1, 0, 1, 0, 0, 1, 1, 0]), (cd (Tryz.f203.body.getD .skip) [1, 1, 0, 1, 0, 0, 1, 1, 1])] M1 (fun i => (bif Nat.beq i 0 then (s203_p4_den K) else (fun _ _ => False))) (s203_R K)
theorem s203_p5_ok (K : Value → World → Prop) (B1 : List Value → World → Prop) (s : Nat → Value) (w : World) (h : s203_p5 K B1 (s 0) (s 1) (s 22) (s 23) (s 24) w) : Tr (s203_p5_den K (fun s w => B1 [s 0, s 1, s 22, s 23, s 24] w) s w) :=
  tr_simple (P := Tryz.prog) (codes := [(cd (Tryz.f203.body.getD .skip) [1, 1, 0, 1, 0, 0, 0]), (cd (Tryz.f203.body.getD .skip) [1, 1, 0, 1, 0, 0, 1, 0]), (cd (Tryz.f203.body.getD .skip) [1, 1, 0, 1, 0, 0, 1, 1, 0]), (cd (Tryz.f203.body.getD .skip) [1, 1, 0, 1, 0, 0, 1, 1, 1])]) (N := (fun s w => B1 [s 0, s 1, s 22, s 23, s 24] w)) (N' := (fun s w => B1 [s 0, s 1, s 22, s 23, s 24] w)) (X := (fun i => (bif Nat.beq i 0 then (fun s w => s203_p4 K (s 0) (s 1) w) else (fun _ _ => False)))) (X' := (fun i => (bif Nat.beq i 0 then (s203_p4_den K) else (fun _ _ => False)))) (R := s203_R K) (s := s) (w := w) (p := s203_p5 K B1 (s 0) (s 1) (s 22) (s 23) (s 24) w) (q := s203_p5_den K (fun s w => B1 [s 0, s 1, s 22, s 23, s 24] w) s w) tr_id (fun i => (tr_bif (fun s w h => s203_p4_ok K s w @h) tr_id)) (by kernel_rfl) (by kernel_rfl) @h
def s203_p6_F (K : Value → World → Prop) (B1 : List Value → World → Prop) (l : List Value) (w : World) : Prop :=
  match l with
  | [t0, t1, t22, t23, t24] => s203_p5 K B1 t0 t1 t22 t23 t24 w
  | _ => False
theorem s203_p6_Fe {K : Value → World → Prop} {B1 : List Value → World → Prop} {t0 t1 t22 t23 t24 : Value} {w : World} : s203_p6_F K B1 [t0, t1, t22, t23, t24] w = s203_p5 K B1 t0 t1 t22 t23 t24 w := by kernel_rfl
def s203_p6 (K : Value → World → Prop) (t0 t1 t22 t23 t24 : Value) (w : World) : Prop :=
  LoopL (s203_p6_F K) [t0, t1, t22, t23, t24] w
def s203_p6_den (K : Value → World → Prop) : (Nat → Value) → World → Prop := fun s w => LoopP (fun M1 s w => s203_p5_den K M1 s w) s w
theorem s203_p6_ok (K : Value → World → Prop) (s : Nat → Value) (w : World) (h : s203_p6 K (s 0) (s 1) (s 22) (s 23) (s 24) w) : Tr (s203_p6_den K s w) :=
  tr_loop (G := fun N' s w => s203_p5_den K N' s w) (F := s203_p6_F K) (sel := fun s => [s 0, s 1, s 22, s 23, s 24]) (s := s) (w := w) (p := s203_p6 K (s 0) (s 1) (s 22) (s 23) (s 24) w) (q := s203_p6_den K s w) (fun B s w h => s203_p5_ok K B s w @h) (by kernel_rfl) (by kernel_rfl) @h
def s203_p7 (K : Value → World → Prop) (t0 t1 : Value) (w : World) : Prop :=
  lnS t1 (fun t10 w =>
  boI .lss t10 (.int .i64 1) (fun t11 w =>
  gd t11 false (fun K w => K t1 w) (fun t13 w =>
  gd t11 false (lnS t13) (fun t14 w =>
  gd t11 false (fun K w => K t0 w) (fun t15 w =>
  gd t11 false (nck t15) (fun t16 w =>
  gd t11 false (fd 0 t16) (fun t17 w =>
  gd t11 false (fd 5 t17) (fun t18 w =>
  gd t11 false (ld1 t18) (fun t19 w =>
  gd t11 false (boI .gtr t14 t19) (fun t20 w =>
  pk t11 (.bool true) t20 (fun t21 w =>
  ifb t21
  (K (.int .i64 14) w)
  (lnS t1 (fun t23 w =>
  s203_p6 K t0 t1 t1 t23 (.int .i64 0) w) w)) w) w) w) w) w) w) w) w) w) w) w
def s203_p7_den (K : Value → World → Prop) : (Nat → Value) → World → Prop := denL Tryz.prog [(cd (Tryz.f203.body.getD .skip) [0]), (cd (Tryz.f203.body.getD .skip) [1, 0, 0]), (cd (Tryz.f203.body.getD .skip) [1, 0, 1]), (cd (Tryz.f203.body.getD .skip) [1, 1, 0, 0])] (s203_p6_den K) (fun i => (fun _ _ => False)) (s203_R K)
theorem s203_p7_ok (K : Value → World → Prop) (s : Nat → Value) (w : World) (h : s203_p7 K (s 0) (s 1) w) : Tr (s203_p7_den K s w) :=
  tr_simple (P := Tryz.prog) (codes := [(cd (Tryz.f203.body.getD .skip) [0]), (cd (Tryz.f203.body.getD .skip) [1, 0, 0]), (cd (Tryz.f203.body.getD .skip) [1, 0, 1]), (cd (Tryz.f203.body.getD .skip) [1, 1, 0, 0])]) (N := (fun s w => s203_p6 K (s 0) (s 1) (s 22) (s 23) (s 24) w)) (N' := (s203_p6_den K)) (X := (fun i => (fun _ _ => False))) (X' := (fun i => (fun _ _ => False))) (R := s203_R K) (s := s) (w := w) (p := s203_p7 K (s 0) (s 1) w) (q := s203_p7_den K s w) (fun s w h => s203_p6_ok K s w @h) (fun i => tr_id) (by kernel_rfl) (by kernel_rfl) @h
/-- the call, from the text -/
theorem c203 (t0 t1 : Value) {K : Value → World → Prop} {w : World} (h : s203_p7 K t0 t1 w) : cl Tryz.prog 203 #[t0, t1] K w :=
  calls_of_tr (c := (Tryz.f203.body.getD .skip)) (fn := Tryz.f203) (q := s203_p7_den K (st0 #[t0, t1]) w) Tryz.func203 (by kernel_rfl) (by kernel_rfl) (Nat.le_of_ble_eq_true (by kernel_rfl)) (by kernel_rfl) (by kernel_rfl) (s203_p7_ok K (st0 #[t0, t1]) w @h)

end Go.Proofs.Qxb6500896aGreat
