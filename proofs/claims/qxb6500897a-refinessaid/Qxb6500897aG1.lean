import Derived.Test.Qxb6500897aProg
import Derived.Test.Qxb6500897aShTr
namespace Go.Proofs.Qxb6500897a
open Go.Sh Go.RowKit
set_option linter.unusedVariables false
set_option maxRecDepth 100000

/-! ### function 3 : e2e.slotslaw.Refines -/
def s3_R (K : Value → World → Prop) (s : Nat → Value) (w : World) : Prop := retv Try.prog s Try.f3.results.toList (fun vs => K (pack vs) w) w
def s3_p1 (K : Value → World → Prop) (w : World) : Prop :=
  K (.bool true) w
def s3_p1_den (K : Value → World → Prop) : (Nat → Value) → World → Prop := denL Try.prog [(cd (Try.f3.body.getD .skip) [1, 1, 1, 1, 0]), (cd (Try.f3.body.getD .skip) [1, 1, 1, 1, 1])] (fun _ _ => False) (fun i => (fun _ _ => False)) (s3_R K)
theorem s3_p1_ok (K : Value → World → Prop) (s : Nat → Value) (w : World) (h : s3_p1 K w) : Tr (s3_p1_den K s w) :=
  tr_simple (P := Try.prog) (codes := [(cd (Try.f3.body.getD .skip) [1, 1, 1, 1, 0]), (cd (Try.f3.body.getD .skip) [1, 1, 1, 1, 1])]) (N := (fun _ _ => False)) (N' := (fun _ _ => False)) (X := (fun i => (fun _ _ => False))) (X' := (fun i => (fun _ _ => False))) (R := s3_R K) (s := s) (w := w) (p := s3_p1 K w) (q := s3_p1_den K s w) tr_id (fun i => tr_id) (by kernel_rfl) (by kernel_rfl) @h
def s3_p2 (K : Value → World → Prop) (B1 : List Value → World → Prop) (t3 t4 t17 t18 t19 : Value) (w : World) : Prop :=
  boI .lss t19 t18 (fun t20 w =>
  ifb t20
  (ixs 6 t17 t19 (fun t21 w =>
  ldn 6 t21 (fun t22 w =>
  nw 34 #[(.int .i64 0), (.int .i64 0), (.int .i64 0), (.int .i64 0), (.int .i64 0), (.int .i64 0)] (fun t6 w =>
  stn 6 t6 t22 (fun w =>
  ldn 6 t6 (fun t25 w =>
  cl Try.prog 17 #[t3, t25] (fun t26 w =>
  exq t26 0 (fun t27 w =>
  exq t26 1 (fun t28 w =>
  ldn 6 t6 (fun t31 w =>
  cl Try.prog 18 #[t4, t31] (fun t32 w =>
  exq t32 0 (fun t33 w =>
  exq t32 1 (fun t34 w =>
  boI .neq t27 t33 (fun t37 w =>
  gd t37 false (fun K w => K t28 w) (fun t39 w =>
  gd t37 false (fun K w => K t34 w) (fun t40 w =>
  gd t37 false (boI .neq t39 t40) (fun t41 w =>
  pk t37 (.bool true) t41 (fun t42 w =>
  ifb t42
  (K (.bool false) w)
  (cl Try.prog 20 #[t3] (fun t44 w =>
  cl Try.prog 21 #[t4] (fun t46 w =>
  cl Try.prog 19 #[t44, t46] (fun t47 w =>
  un .not t47 (fun t48 w =>
  ifb t48
  (K (.bool false) w)
  (boI .add t19 (.int .i64 1) (fun t49 w =>
  B1 [t3, t4, t17, t18, t49] w) w)) w) w) w) w)) w) w) w) w) w) w) w) w) w) w) w) w) w) w) w) w) w)
  (s3_p1 K w)) w
def s3_p2_den (K : Value → World → Prop) (M1 : (Nat → Value) → World → Prop) : (Nat → Value) → World → Prop := denL Try.prog [(cd (Try.f3.body.getD .skip) [1, 1, 1, 0, 1, 0, 0, 0]), (cd (Try.f3.body.getD .skip) [1, 1, 1, 0, 1, 0, 0, 1, 0]), (cd (Try.f3.body.getD .skip) [1, 1, 1, 0, 1, 0, 0, 1, 1, 0]), (cd (Try.f3.body.getD .skip) [1, 1, 1, 0, 1, 0, 0, 1, 1, 1])] M1 (fun i => (bif Nat.beq i 0 then (s3_p1_den K) else (fun _ _ => False))) (s3_R K)
theorem s3_p2_ok (K : Value → World → Prop) (B1 : List Value → World → Prop) (s : Nat → Value) (w : World) (h : s3_p2 K B1 (s 3) (s 4) (s 17) (s 18) (s 19) w) : Tr (s3_p2_den K (fun s w => B1 [s 3, s 4, s 17, s 18, s 19] w) s w) :=
  tr_simple (P := Try.prog) (codes := [(cd (Try.f3.body.getD .skip) [1, 1, 1, 0, 1, 0, 0, 0]), (cd (Try.f3.body.getD .skip) [1, 1, 1, 0, 1, 0, 0, 1, 0]), (cd (Try.f3.body.getD .skip) [1, 1, 1, 0, 1, 0, 0, 1, 1, 0]), (cd (Try.f3.body.getD .skip) [1, 1, 1, 0, 1, 0, 0, 1, 1, 1])]) (N := (fun s w => B1 [s 3, s 4, s 17, s 18, s 19] w)) (N' := (fun s w => B1 [s 3, s 4, s 17, s 18, s 19] w)) (X := (fun i => (bif Nat.beq i 0 then (fun s w => s3_p1 K w) else (fun _ _ => False)))) (X' := (fun i => (bif Nat.beq i 0 then (s3_p1_den K) else (fun _ _ => False)))) (R := s3_R K) (s := s) (w := w) (p := s3_p2 K B1 (s 3) (s 4) (s 17) (s 18) (s 19) w) (q := s3_p2_den K (fun s w => B1 [s 3, s 4, s 17, s 18, s 19] w) s w) tr_id (fun i => (tr_bif (fun s w h => s3_p1_ok K s w @h) tr_id)) (by kernel_rfl) (by kernel_rfl) @h
def s3_p3_F (K : Value → World → Prop) (B1 : List Value → World → Prop) (l : List Value) (w : World) : Prop :=
  match l with
  | [t3, t4, t17, t18, t19] => s3_p2 K B1 t3 t4 t17 t18 t19 w
  | _ => False
theorem s3_p3_Fe {K : Value → World → Prop} {B1 : List Value → World → Prop} {t3 t4 t17 t18 t19 : Value} {w : World} : s3_p3_F K B1 [t3, t4, t17, t18, t19] w = s3_p2 K B1 t3 t4 t17 t18 t19 w := by kernel_rfl
def s3_p3 (K : Value → World → Prop) (t3 t4 t17 t18 t19 : Value) (w : World) : Prop :=
  LoopL (s3_p3_F K) [t3, t4, t17, t18, t19] w
def s3_p3_den (K : Value → World → Prop) : (Nat → Value) → World → Prop := fun s w => LoopP (fun M1 s w => s3_p2_den K M1 s w) s w
theorem s3_p3_ok (K : Value → World → Prop) (s : Nat → Value) (w : World) (h : s3_p3 K (s 3) (s 4) (s 17) (s 18) (s 19) w) : Tr (s3_p3_den K s w) :=
  tr_loop (G := fun N' s w => s3_p2_den K N' s w) (F := s3_p3_F K) (sel := fun s => [s 3, s 4, s 17, s 18, s 19]) (s := s) (w := w) (p := s3_p3 K (s 3) (s 4) (s 17) (s 18) (s 19) w) (q := s3_p3_den K s w) (fun B s w h => s3_p2_ok K B s w @h) (by kernel_rfl) (by kernel_rfl) @h
def s3_p4 (K : Value → World → Prop) (t0 : Value) (w : World) : Prop :=
  cl Try.prog 13 #[t0] (fun t12 w =>
  un .not t12 (fun t13 w =>
  ifb t13
  (K (.bool true) w)
  (cl Try.prog 14 #[] (fun t14 w =>
  cl Try.prog 16 #[] (fun t15 w =>
  cl Try.prog 15 #[t15] (fun t16 w =>
  lnS t0 (fun t18 w =>
  s3_p3 K t14 t16 t0 t18 (.int .i64 0) w) w) w) w) w)) w) w
def s3_p4_den (K : Value → World → Prop) : (Nat → Value) → World → Prop := denL Try.prog [(cd (Try.f3.body.getD .skip) [0]), (cd (Try.f3.body.getD .skip) [1, 0, 0]), (cd (Try.f3.body.getD .skip) [1, 0, 1]), (cd (Try.f3.body.getD .skip) [1, 1, 0]), (cd (Try.f3.body.getD .skip) [1, 1, 1, 0, 0])] (s3_p3_den K) (fun i => (fun _ _ => False)) (s3_R K)
theorem s3_p4_ok (K : Value → World → Prop) (s : Nat → Value) (w : World) (h : s3_p4 K (s 0) w) : Tr (s3_p4_den K s w) :=
  tr_simple (P := Try.prog) (codes := [(cd (Try.f3.body.getD .skip) [0]), (cd (Try.f3.body.getD .skip) [1, 0, 0]), (cd (Try.f3.body.getD .skip) [1, 0, 1]), (cd (Try.f3.body.getD .skip) [1, 1, 0]), (cd (Try.f3.body.getD .skip) [1, 1, 1, 0, 0])]) (N := (fun s w => s3_p3 K (s 3) (s 4) (s 17) (s 18) (s 19) w)) (N' := (s3_p3_den K)) (X := (fun i => (fun _ _ => False))) (X' := (fun i => (fun _ _ => False))) (R := s3_R K) (s := s) (w := w) (p := s3_p4 K (s 0) w) (q := s3_p4_den K s w) (fun s w h => s3_p3_ok K s w @h) (fun i => tr_id) (by kernel_rfl) (by kernel_rfl) @h
/-- the call, from the text -/
theorem c3 (t0 : Value) {K : Value → World → Prop} {w : World} (h : s3_p4 K t0 w) : cl Try.prog 3 #[t0] K w :=
  calls_of_tr (c := (Try.f3.body.getD .skip)) (fn := Try.f3) (q := s3_p4_den K (st0 #[t0]) w) Try.func3 (by kernel_rfl) (by kernel_rfl) (Nat.le_of_ble_eq_true (by kernel_rfl)) (by kernel_rfl) (by kernel_rfl) (s3_p4_ok K (st0 #[t0]) w @h)

/-! ### function 4 : e2e.slotslaw.OccupancyIsSumOfAdmissions -/
def s4_R (K : Value → World → Prop) (s : Nat → Value) (w : World) : Prop := retv Try.prog s Try.f4.results.toList (fun vs => K (pack vs) w) w
def s4_p1 (K : Value → World → Prop) (w : World) : Prop :=
  K (.bool true) w
def s4_p1_den (K : Value → World → Prop) : (Nat → Value) → World → Prop := denL Try.prog [(cd (Try.f4.body.getD .skip) [1, 1, 1, 1, 0]), (cd (Try.f4.body.getD .skip) [1, 1, 1, 1, 1])] (fun _ _ => False) (fun i => (fun _ _ => False)) (s4_R K)
theorem s4_p1_ok (K : Value → World → Prop) (s : Nat → Value) (w : World) (h : s4_p1 K w) : Tr (s4_p1_den K s w) :=
  tr_simple (P := Try.prog) (codes := [(cd (Try.f4.body.getD .skip) [1, 1, 1, 1, 0]), (cd (Try.f4.body.getD .skip) [1, 1, 1, 1, 1])]) (N := (fun _ _ => False)) (N' := (fun _ _ => False)) (X := (fun i => (fun _ _ => False))) (X' := (fun i => (fun _ _ => False))) (R := s4_R K) (s := s) (w := w) (p := s4_p1 K w) (q := s4_p1_den K s w) tr_id (fun i => tr_id) (by kernel_rfl) (by kernel_rfl) @h
def s4_p2 (K : Value → World → Prop) (B1 : List Value → World → Prop) (t3 t4 t20 t21 t22 : Value) (w : World) : Prop :=
  boI .add t22 (.int .i64 1) (fun t74 w =>
  B1 [t3, t4, t20, t21, t74] w) w
def s4_p2_den (K : Value → World → Prop) (M1 : (Nat → Value) → World → Prop) : (Nat → Value) → World → Prop := denL Try.prog [(cd (Try.f4.body.getD .skip) [1, 1, 1, 0, 1, 0, 0, 1, 1, 1])] M1 (fun i => (bif Nat.beq i 0 then (s4_p1_den K) else (fun _ _ => False))) (s4_R K)
theorem s4_p2_ok (K : Value → World → Prop) (B1 : List Value → World → Prop) (s : Nat → Value) (w : World) (h : s4_p2 K B1 (s 3) (s 4) (s 20) (s 21) (s 22) w) : Tr (s4_p2_den K (fun s w => B1 [s 3, s 4, s 20, s 21, s 22] w) s w) :=
  tr_simple (P := Try.prog) (codes := [(cd (Try.f4.body.getD .skip) [1, 1, 1, 0, 1, 0, 0, 1, 1, 1])]) (N := (fun s w => B1 [s 3, s 4, s 20, s 21, s 22] w)) (N' := (fun s w => B1 [s 3, s 4, s 20, s 21, s 22] w)) (X := (fun i => (bif Nat.beq i 0 then (fun s w => s4_p1 K w) else (fun _ _ => False)))) (X' := (fun i => (bif Nat.beq i 0 then (s4_p1_den K) else (fun _ _ => False)))) (R := s4_R K) (s := s) (w := w) (p := s4_p2 K B1 (s 3) (s 4) (s 20) (s 21) (s 22) w) (q := s4_p2_den K (fun s w => B1 [s 3, s 4, s 20, s 21, s 22] w) s w) tr_id (fun i => (tr_bif (fun s w h => s4_p1_ok K s w @h) tr_id)) (by kernel_rfl) (by kernel_rfl) @h
def s4_p3 (K : Value → World → Prop) (B1 : List Value → World → Prop) (B2 : List Value → World → Prop) (t3 t4 t20 t21 t22 t37 t38 : Value) (w : World) : Prop :=
  boI .add t38 (.int .i64 1) (fun t73 w =>
  B2 [t3, t4, t20, t21, t22, t37, t73] w) w
def s4_p3_den (K : Value → World → Prop) (M1 : (Nat → Value) → World → Prop) (M2 : (Nat → Value) → World → Prop) : (Nat → Value) → World → Prop := denL Try.prog [(cd (Try.f4.body.getD .skip) [1, 1, 1, 0, 1, 0, 0, 1, 1, 0, 0, 1, 1, 1, 1, 0, 0, 1, 1, 1])] M2 (fun i => (bif Nat.beq i 2 then (s4_p2_den K M1) else (bif Nat.beq i 1 then (s4_p2_den K M1) else (bif Nat.beq i 0 then (s4_p1_den K) else (fun _ _ => False))))) (s4_R K)
theorem s4_p3_ok (K : Value → World → Prop) (B1 : List Value → World → Prop) (B2 : List Value → World → Prop) (s : Nat → Value) (w : World) (h : s4_p3 K B1 B2 (s 3) (s 4) (s 20) (s 21) (s 22) (s 37) (s 38) w) : Tr (s4_p3_den K (fun s w => B1 [s 3, s 4, s 20, s 21, s 22] w) (fun s w => B2 [s 3, s 4, s 20, s 21, s 22, s 37, s 38] w) s w) :=
  tr_simple (P := Try.prog) (codes := [(cd (Try.f4.body.getD .skip) [1, 1, 1, 0, 1, 0, 0, 1, 1, 0, 0, 1, 1, 1, 1, 0, 0, 1, 1, 1])]) (N := (fun s w => B2 [s 3, s 4, s 20, s 21, s 22, s 37, s 38] w)) (N' := (fun s w => B2 [s 3, s 4, s 20, s 21, s 22, s 37, s 38] w)) (X := (fun i => (bif Nat.beq i 2 then (fun s w => s4_p2 K B1 (s 3) (s 4) (s 20) (s 21) (s 22) w) else (bif Nat.beq i 1 then (fun s w => s4_p2 K B1 (s 3) (s 4) (s 20) (s 21) (s 22) w) else (bif Nat.beq i 0 then (fun s w => s4_p1 K w) else (fun _ _ => False)))))) (X' := (fun i => (bif Nat.beq i 2 then (s4_p2_den K (fun s w => B1 [s 3, s 4, s 20, s 21, s 22] w)) else (bif Nat.beq i 1 then (s4_p2_den K (fun s w => B1 [s 3, s 4, s 20, s 21, s 22] w)) else (bif Nat.beq i 0 then (s4_p1_den K) else (fun _ _ => False)))))) (R := s4_R K) (s := s) (w := w) (p := s4_p3 K B1 B2 (s 3) (s 4) (s 20) (s 21) (s 22) (s 37) (s 38) w) (q := s4_p3_den K (fun s w => B1 [s 3, s 4, s 20, s 21, s 22] w) (fun s w => B2 [s 3, s 4, s 20, s 21, s 22, s 37, s 38] w) s w) tr_id (fun i => (tr_bif (fun s w h => s4_p2_ok K B1 s w @h) (tr_bif (fun s w h => s4_p2_ok K B1 s w @h) (tr_bif (fun s w h => s4_p1_ok K s w @h) tr_id)))) (by kernel_rfl) (by kernel_rfl) @h
def s4_p4 (K : Value → World → Prop) (B1 : List Value → World → Prop) (B2 : List Value → World → Prop) (B3 : List Value → World → Prop) (t3 t4 t7 t9 t11 t20 t21 t22 t37 t38 : Value) (w : World) : Prop :=
  boI .leq t11 t9 (fun t53 w =>
  ifb t53
  (cl Try.prog 23 #[t3, t7, t11] (fun t60 w =>
  exq t60 0 (fun t61 w =>
  exq t60 1 (fun t62 w =>
  boF true .neq t62 .nilIface (fun t64 w =>
  gd t64 false (fun K w => K t61 w) (fun t66 w =>
  gd t64 false (fun K w => K t4 w) (fun t67 w =>
  gd t64 false (fun K w => K t7 w) (fun t68 w =>
  gd t64 false (fun K w => K t11 w) (fun t69 w =>
  gd t64 false (cl Try.prog 24 #[t67, t68, t69]) (fun t70 w =>
  gd t64 false (boI .neq t66 t70) (fun t71 w =>
  pk t64 (.bool true) t71 (fun t72 w =>
  ifb t72
  (K (.bool false) w)
  (boI .add t11 (.int .i64 1) (fun t55 w =>
  B3 [t3, t4, t7, t9, t55, t20, t21, t22, t37, t38] w) w)) w) w) w) w) w) w) w) w) w) w) w)
  (s4_p3 K B1 B2 t3 t4 t20 t21 t22 t37 t38 w)) w
def s4_p4_den (K : Value → World → Prop) (M1 : (Nat → Value) → World → Prop) (M2 : (Nat → Value) → World → Prop) (M3 : (Nat → Value) → World → Prop) : (Nat → Value) → World → Prop := denL Try.prog [(cd (Try.f4.body.getD .skip) [1, 1, 1, 0, 1, 0, 0, 1, 1, 0, 0, 1, 1, 1, 1, 0, 0, 1, 1, 0, 0, 1, 1, 1, 1, 0, 0, 0, 0]), (cd (Try.f4.body.getD .skip) [1, 1, 1, 0, 1, 0, 0, 1, 1, 0, 0, 1, 1, 1, 1, 0, 0, 1, 1, 0, 0, 1, 1, 1, 1, 0, 0, 0, 1]), (cd (Try.f4.body.getD .skip) [1, 1, 1, 0, 1, 0, 0, 1, 1, 0, 0, 1, 1, 1, 1, 0, 0, 1, 1, 0, 0, 1, 1, 1, 1, 0, 0, 1, 0]), (cd (Try.f4.body.getD .skip) [1, 1, 1, 0, 1, 0, 0, 1, 1, 0, 0, 1, 1, 1, 1, 0, 0, 1, 1, 0, 0, 1, 1, 1, 1, 0, 0, 1, 1])] M3 (fun i => (bif Nat.beq i 4 then (s4_p3_den K M1 M2) else (bif Nat.beq i 3 then (s4_p3_den K M1 M2) else (bif Nat.beq i 2 then (s4_p2_den K M1) else (bif Nat.beq i 1 then (s4_p2_den K M1) else (bif Nat.beq i 0 then (s4_p1_den K) else (fun _ _ => False))))))) (s4_R K)
theorem s4_p4_ok (K : Value → World → Prop) (B1 : List Value → World → Prop) (B2 : List Value → World → Prop) (B3 : List Value → World → Prop) (s : Nat → Value) (w : World) (h : s4_p4 K B1 B2 B3 (s 3) (s 4) (s 7) (s 9) (s 11) (s 20) (s 21) (s 22) (s 37) (s 38) w) : Tr (s4_p4_den K (fun s w => B1 [s 3, s 4, s 20, s 21, s 22] w) (fun s w => B2 [s 3, s 4, s 20, s 21, s 22, s 37, s 38] w) (fun s w => B3 [s 3, s 4, s 7, s 9, s 11, s 20, s 21, s 22, s 37, s 38] w) s w) :=
  tr_simple (P := Try.prog) (codes := [(cd (Try.f4.body.getD .skip) [1, 1, 1, 0, 1, 0, 0, 1, 1, 0, 0, 1, 1, 1, 1, 0, 0, 1, 1, 0, 0, 1, 1, 1, 1, 0, 0, 0, 0]), (cd (Try.f4.body.getD .skip) [1, 1, 1, 0, 1, 0, 0, 1, 1, 0, 0, 1, 1, 1, 1, 0, 0, 1, 1, 0, 0, 1, 1, 1, 1, 0, 0, 0, 1]), (cd (Try.f4.body.getD .skip) [1, 1, 1, 0, 1, 0, 0, 1, 1, 0, 0, 1, 1, 1, 1, 0, 0, 1, 1, 0, 0, 1, 1, 1, 1, 0, 0, 1, 0]), (cd (Try.f4.body.getD .skip) [1, 1, 1, 0, 1, 0, 0, 1, 1, 0, 0, 1, 1, 1, 1, 0, 0, 1, 1, 0, 0, 1, 1, 1, 1, 0, 0, 1, 1])]) (N := (fun s w => B3 [s 3, s 4, s 7, s 9, s 11, s 20, s 21, s 22, s 37, s 38] w)) (N' := (fun s w => B3 [s 3, s 4, s 7, s 9, s 11, s 20, s 21, s 22, s 37, s 38] w)) (X := (fun i => (bif Nat.beq i 4 then (fun s w => s4_p3 K B1 B2 (s 3) (s 4) (s 20) (s 21) (s 22) (s 37) (s 38) w) else (bif Nat.beq i 3 then (fun s w => s4_p3 K B1 B2 (s 3) (s 4) (s 20) (s 21) (s 22) (s 37) (s 38) w) else (bif Nat.beq i 2 then (fun s w => s4_p2 K B1 (s 3) (s 4) (s 20) (s 21) (s 22) w) else (bif Nat.beq i 1 then (fun s w => s4_p2 K B1 (s 3) (s 4) (s 20) (s 21) (s 22) w) else (bif Nat.beq i 0 then (fun s w => s4_p1 K w) else (fun _ _ => False)))))))) (X' := (fun i => (bif Nat.beq i 4 then (s4_p3_den K (fun s w => B1 [s 3, s 4, s 20, s 21, s 22] w) (fun s w => B2 [s 3, s 4, s 20, s 21, s 22, s 37, s 38] w)) else (bif Nat.beq i 3 then (s4_p3_den K (fun s w => B1 [s 3, s 4, s 20, s 21, s 22] w) (fun s w => B2 [s 3, s 4, s 20, s 21, s 22, s 37, s 38] w)) else (bif Nat.beq i 2 then (s4_p2_den K (fun s w => B1 [s 3, s 4, s 20, s 21, s 22] w)) else (bif Nat.beq i 1 then (s4_p2_den K (fun s w => B1 [s 3, s 4, s 20, s 21, s 22] w)) else (bif Nat.beq i 0 then (s4_p1_den K) else (fun _ _ => False)))))))) (R := s4_R K) (s := s) (w := w) (p := s4_p4 K B1 B2 B3 (s 3) (s 4) (s 7) (s 9) (s 11) (s 20) (s 21) (s 22) (s 37) (s 38) w) (q := s4_p4_den K (fun s w => B1 [s 3, s 4, s 20, s 21, s 22] w) (fun s w => B2 [s 3, s 4, s 20, s 21, s 22, s 37, s 38] w) (fun s w => B3 [s 3, s 4, s 7, s 9, s 11, s 20, s 21, s 22, s 37, s 38] w) s w) tr_id (fun i => (tr_bif (fun s w h => s4_p3_ok K B1 B2 s w @h) (tr_bif (fun s w h => s4_p3_ok K B1 B2 s w @h) (tr_bif (fun s w h => s4_p2_ok K B1 s w @h) (tr_bif (fun s w h => s4_p2_ok K B1 s w @h) (tr_bif (fun s w h => s4_p1_ok K s w @h) tr_id)))))) (by kernel_rfl) (by kernel_rfl) @h
def s4_p5_F (K : Value → World → Prop) (B1 : List Value → World → Prop) (B2 : List Value → World → Prop) (B3 : List Value → World → Prop) (l : List Value) (w : World) : Prop :=
  match l with
  | [t3, t4, t7, t9, t11, t20, t21, t22, t37, t38] => s4_p4 K B1 B2 B3 t3 t4 t7 t9 t11 t20 t21 t22 t37 t38 w
  | _ => False
theorem s4_p5_Fe {K : Value → World → Prop} {B1 : List Value → World → Prop} {B2 : List Value → World → Prop} {B3 : List Value → World → Prop} {t3 t4 t7 t9 t11 t20 t21 t22 t37 t38 : Value} {w : World} : s4_p5_F K B1 B2 B3 [t3, t4, t7, t9, t11, t20, t21, t22, t37, t38] w = s4_p4 K B1 B2 B3 t3 t4 t7 t9 t11 t20 t21 t22 t37 t38 w := by kernel_rfl
def s4_p5 (K : Value → World → Prop) (B1 : List Value → World → Prop) (B2 : List Value → World → Prop) (t3 t4 t7 t9 t11 t20 t21 t22 t37 t38 : Value) (w : World) : Prop :=
  LoopL (s4_p5_F K B1 B2) [t3, t4, t7, t9, t11, t20, t21, t22, t37, t38] w
def s4_p5_den (K : Value → World → Prop) (M1 : (Nat → Value) → World → Prop) (M2 : (Nat → Value) → World → Prop) : (Nat → Value) → World → Prop := fun s w => LoopP (fun M3 s w => s4_p4_den K M1 M2 M3 s w) s w
theorem s4_p5_ok (K : Value → World → Prop) (B1 : List Value → World → Prop) (B2 : List Value → World → Prop) (s : Nat → Value) (w : World) (h : s4_p5 K B1 B2 (s 3) (s 4) (s 7) (s 9) (s 11) (s 20) (s 21) (s 22) (s 37) (s 38) w) : Tr (s4_p5_den K (fun s w => B1 [s 3, s 4, s 20, s 21, s 22] w) (fun s w => B2 [s 3, s 4, s 20, s 21, s 22, s 37, s 38] w) s w) :=
  tr_loop (G := fun N' s w => s4_p4_den K (fun s w => B1 [s 3, s 4, s 20, s 21, s 22] w) (fun s w => B2 [s 3, s 4, s 20, s 21, s 22, s 37, s 38] w) N' s w) (F := s4_p5_F K B1 B2) (sel := fun s => [s 3, s 4, s 7, s 9, s 11, s 20, s 21, s 22, s 37, s 38]) (s := s) (w := w) (p := s4_p5 K B1 B2 (s 3) (s 4) (s 7) (s 9) (s 11) (s 20) (s 21) (s 22) (s 37) (s 38) w) (q := s4_p5_den K (fun s w => B1 [s 3, s 4, s 20, s 21, s 22] w) (fun s w => B2 [s 3, s 4, s 20, s 21, s 22, s 37, s 38] w) s w) (fun B s w h => s4_p4_ok K B1 B2 B s w @h) (by kernel_rfl) (by kernel_rfl) @h
def s4_p6 (K : Value → World → Prop) (B1 : List Value → World → Prop) (B2 : List Value → World → Prop) (t3 t4 t20 t21 t22 t37 t38 : Value) (w : World) : Prop :=
  cl Try.prog 22 #[t3, t38] (fun t44 w =>
  exq t44 0 (fun t45 w =>
  exq t44 1 (fun t46 w =>
  exq t44 2 (fun t47 w =>
  boF true .neq t47 .nilIface (fun t49 w =>
  ifb t49
  (K (.bool false) w)
  (s4_p5 K B1 B2 t3 t4 t38 t46 t45 t20 t21 t22 t37 t38 w)) w) w) w) w) w
def s4_p6_den (K : Value → World → Prop) (M1 : (Nat → Value) → World → Prop) (M2 : (Nat → Value) → World → Prop) : (Nat → Value) → World → Prop := denL Try.prog [(cd (Try.f4.body.getD .skip) [1, 1, 1, 0, 1, 0, 0, 1, 1, 0, 0, 1, 1, 1, 1, 0, 0, 1, 1, 0, 0, 0]), (cd (Try.f4.body.getD .skip) [1, 1, 1, 0, 1, 0, 0, 1, 1, 0, 0, 1, 1, 1, 1, 0, 0, 1, 1, 0, 0, 1, 0]), (cd (Try.f4.body.getD .skip) [1, 1, 1, 0, 1, 0, 0, 1, 1, 0, 0, 1, 1, 1, 1, 0, 0, 1, 1, 0, 0, 1, 1, 0, 0]), (cd (Try.f4.body.getD .skip) [1, 1, 1, 0, 1, 0, 0, 1, 1, 0, 0, 1, 1, 1, 1, 0, 0, 1, 1, 0, 0, 1, 1, 0, 1]), (cd (Try.f4.body.getD .skip) [1, 1, 1, 0, 1, 0, 0, 1, 1, 0, 0, 1, 1, 1, 1, 0, 0, 1, 1, 0, 0, 1, 1, 1, 0])] (s4_p5_den K M1 M2) (fun i => (bif Nat.beq i 3 then (s4_p3_den K M1 M2) else (bif Nat.beq i 2 then (s4_p2_den K M1) else (bif Nat.beq i 1 then (s4_p2_den K M1) else (bif Nat.beq i 0 then (s4_p1_den K) else (fun _ _ => False)))))) (s4_R K)
theorem s4_p6_ok (K : Value → World → Prop) (B1 : List Value → World → Prop) (B2 : List Value → World → Prop) (s : Nat → Value) (w : World) (h : s4_p6 K B1 B2 (s 3) (s 4) (s 20) (s 21) (s 22) (s 37) (s 38) w) : Tr (s4_p6_den K (fun s w => B1 [s 3, s 4, s 20, s 21, s 22] w) (fun s w => B2 [s 3, s 4, s 20, s 21, s 22, s 37, s 38] w) s w) :=
  tr_simple (P := Try.prog) (codes := [(cd (Try.f4.body.getD .skip) [1, 1, 1, 0, 1, 0, 0, 1, 1, 0, 0, 1, 1, 1, 1, 0, 0, 1, 1, 0, 0, 0]), (cd (Try.f4.body.getD .skip) [1, 1, 1, 0, 1, 0, 0, 1, 1, 0, 0, 1, 1, 1, 1, 0, 0, 1, 1, 0, 0, 1, 0]), (cd (Try.f4.body.getD .skip) [1, 1, 1, 0, 1, 0, 0, 1, 1, 0, 0, 1, 1, 1, 1, 0, 0, 1, 1, 0, 0, 1, 1, 0, 0]), (cd (Try.f4.body.getD .skip) [1, 1, 1, 0, 1, 0, 0, 1, 1, 0, 0, 1, 1, 1, 1, 0, 0, 1, 1, 0, 0, 1, 1, 0, 1]), (cd (Try.f4.body.getD .skip) [1, 1, 1, 0, 1, 0, 0, 1, 1, 0, 0, 1, 1, 1, 1, 0, 0, 1, 1, 0, 0, 1, 1, 1, 0])]) (N := (fun s w => s4_p5 K B1 B2 (s 3) (s 4) (s 7) (s 9) (s 11) (s 20) (s 21) (s 22) (s 37) (s 38) w)) (N' := (s4_p5_den K (fun s w => B1 [s 3, s 4, s 20, s 21, s 22] w) (fun s w => B2 [s 3, s 4, s 20, s 21, s 22, s 37, s 38] w))) (X := (fun i => (bif Nat.beq i 3 then (fun s w => s4_p3 K B1 B2 (s 3) (s 4) (s 20) (s 21) (s 22) (s 37) (s 38) w) else (bif Nat.beq i 2 then (fun s w => s4_p2 K B1 (s 3) (s 4) (s 20) (s 21) (s 22) w) else (bif Nat.beq i 1 then (fun s w => s4_p2 K B1 (s 3) (s 4) (s 20) (s 21) (s 22) w) else (bif Nat.beq i 0 then (fun s w => s4_p1 K w) else (fun _ _ => False))))))) (X' := (fun i => (bif Nat.beq i 3 then (s4_p3_den K (fun s w => B1 [s 3, s 4, s 20, s 21, s 22] w) (fun s w => B2 [s 3, s 4, s 20, s 21, s 22, s 37, s 38] w)) else (bif Nat.beq i 2 then (s4_p2_den K (fun s w => B1 [s 3, s 4, s 20, s 21, s 22] w)) else (bif Nat.beq i 1 then (s4_p2_den K (fun s w => B1 [s 3, s 4, s 20, s 21, s 22] w)) else (bif Nat.beq i 0 then (s4_p1_den K) else (fun _ _ => False))))))) (R := s4_R K) (s := s) (w := w) (p := s4_p6 K B1 B2 (s 3) (s 4) (s 20) (s 21) (s 22) (s 37) (s 38) w) (q := s4_p6_den K (fun s w => B1 [s 3, s 4, s 20, s 21, s 22] w) (fun s w => B2 [s 3, s 4, s 20, s 21, s 22, s 37, s 38] w) s w) (fun s w h => s4_p5_ok K B1 B2 s w @h) (fun i => (tr_bif (fun s w h => s4_p3_ok K B1 B2 s w @h) (tr_bif (fun s w h => s4_p2_ok K B1 s w @h) (tr_bif (fun s w h => s4_p2_ok K B1 s w @h) (tr_bif (fun s w h => s4_p1_ok K s w @h) tr_id))))) (by kernel_rfl) (by kernel_rfl) @h
def s4_p7 (K : Value → World → Prop) (B1 : List Value → World → Prop) (B2 : List Value → World → Prop) (t3 t4 t20 t21 t22 t37 t38 : Value) (w : World) : Prop :=
  boI .lss t38 t37 (fun t39 w =>
  ifb t39
  (s4_p6 K B1 B2 t3 t4 t20 t21 t22 t37 t38 w)
  (s4_p2 K B1 t3 t4 t20 t21 t22 w)) w
def s4_p7_den (K : Value → World → Prop) (M1 : (Nat → Value) → World → Prop) (M2 : (Nat → Value) → World → Prop) : (Nat → Value) → World → Prop := denL Try.prog [(cd (Try.f4.body.getD .skip) [1, 1, 1, 0, 1, 0, 0, 1, 1, 0, 0, 1, 1, 1, 1, 0, 0, 0]), (cd (Try.f4.body.getD .skip) [1, 1, 1, 0, 1, 0, 0, 1, 1, 0, 0, 1, 1, 1, 1, 0, 0, 1, 0])] (s4_p6_den K M1 M2) (fun i => (bif Nat.beq i 2 then (s4_p2_den K M1) else (bif Nat.beq i 1 then (s4_p2_den K M1) else (bif Nat.beq i 0 then (s4_p1_den K) else (fun _ _ => False))))) (s4_R K)
theorem s4_p7_ok (K : Value → World → Prop) (B1 : List Value → World → Prop) (B2 : List Value → World → Prop) (s : Nat → Value) (w : World) (h : s4_p7 K B1 B2 (s 3) (s 4) (s 20) (s 21) (s 22) (s 37) (s 38) w) : Tr (s4_p7_den K (fun s w => B1 [s 3, s 4, s 20, s 21, s 22] w) (fun s w => B2 [s 3, s 4, s 20, s 21, s 22, s 37, s 38] w) s w) :=
  tr_simple (P := Try.prog) (codes := [(cd (Try.f4.body.getD .skip) [1, 1, 1, 0, 1, 0, 0, 1, 1, 0, 0, 1, 1, 1, 1, 0, 0, 0]), (cd (Try.f4.body.getD .skip) [1, 1, 1, 0, 1, 0, 0, 1, 1, 0, 0, 1, 1, 1, 1, 0, 0, 1, 0])]) (N := (fun s w => s4_p6 K B1 B2 (s 3) (s 4) (s 20) (s 21) (s 22) (s 37) (s 38) w)) (N' := (s4_p6_den K (fun s w => B1 [s 3, s 4, s 20, s 21, s 22] w) (fun s w => B2 [s 3, s 4, s 20, s 21, s 22, s 37, s 38] w))) (X := (fun i => (bif Nat.beq i 2 then (fun s w => s4_p2 K B1 (s 3) (s 4) (s 20) (s 21) (s 22) w) else (bif Nat.beq i 1 then (fun s w => s4_p2 K B1 (s 3) (s 4) (s 20) (s 21) (s 22) w) else (bif Nat.beq i 0 then (fun s w => s4_p1 K w) else (fun _ _ => False)))))) (X' := (fun i => (bif Nat.beq i 2 then (s4_p2_den K (fun s w => B1 [s 3, s 4, s 20, s 21, s 22] w)) else (bif Nat.beq i 1 then (s4_p2_den K (fun s w => B1 [s 3, s 4, s 20, s 21, s 22] w)) else (bif Nat.beq i 0 then (s4_p1_den K) else (fun _ _ => False)))))) (R := s4_R K) (s := s) (w := w) (p := s4_p7 K B1 B2 (s 3) (s 4) (s 20) (s 21) (s 22) (s 37) (s 38) w) (q := s4_p7_den K (fun s w => B1 [s 3, s 4, s 20, s 21, s 22] w) (fun s w => B2 [s 3, s 4, s 20, s 21, s 22, s 37, s 38] w) s w) (fun s w h => s4_p6_ok K B1 B2 s w @h) (fun i => (tr_bif (fun s w h => s4_p2_ok K B1 s w @h) (tr_bif (fun s w h => s4_p2_ok K B1 s w @h) (tr_bif (fun s w h => s4_p1_ok K s w @h) tr_id)))) (by kernel_rfl) (by kernel_rfl) @h
def s4_p8_F (K : Value → World → Prop) (B1 : List Value → World → Prop) (B2 : List Value → World → Prop) (l : List Value) (w : World) : Prop :=
  match l with
  | [t3, t4, t20, t21, t22, t37, t38] => s4_p7 K B1 B2 t3 t4 t20 t21 t22 t37 t38 w
  | _ => False
theorem s4_p8_Fe {K : Value → World → Prop} {B1 : List Value → World → Prop} {B2 : List Value → World → Prop} {t3 t4 t20 t21 t22 t37 t38 : Value} {w : World} : s4_p8_F K B1 B2 [t3, t4, t20, t21, t22, t37, t38] w = s4_p7 K B1 B2 t3 t4 t20 t21 t22 t37 t38 w := by kernel_rfl
def s4_p8 (K : Value → World → Prop) (B1 : List Value → World → Prop) (t3 t4 t20 t21 t22 t37 t38 : Value) (w : World) : Prop :=
  LoopL (s4_p8_F K B1) [t3, t4, t20, t21, t22, t37, t38] w
def s4_p8_den (K : Value → World → Prop) (M1 : (Nat → Value) → World → Prop) : (Nat → Value) → World → Prop := fun s w => LoopP (fun M2 s w => s4_p7_den K M1 M2 s w) s w
theorem s4_p8_ok (K : Value → World → Prop) (B1 : List Value → World → Prop) (s : Nat → Value) (w : World) (h : s4_p8 K B1 (s 3) (s 4) (s 20) (s 21) (s 22) (s 37) (s 38) w) : Tr (s4_p8_den K (fun s w => B1 [s 3, s 4, s 20, s 21, s 22] w) s w) :=
  tr_loop (G := fun N' s w => s4_p7_den K (fun s w => B1 [s 3, s 4, s 20, s 21, s 22] w) N' s w) (F := s4_p8_F K B1) (sel := fun s => [s 3, s 4, s 20, s 21, s 22, s 37, s 38]) (s := s) (w := w) (p := s4_p8 K B1 (s 3) (s 4) (s 20) (s 21) (s 22) (s 37) (s 38) w) (q := s4_p8_den K (fun s w => B1 [s 3, s 4, s 20, s 21, s 22] w) s w) (fun B s w h => s4_p7_ok K B1 B s w @h) (by kernel_rfl) (by kernel_rfl) @h
def s4_p9 (K : Value → World → Prop) (B1 : List Value → World → Prop) (t3 t4 t20 t21 t22 : Value) (w : World) : Prop :=
  ixs 6 t20 t22 (fun t24 w =>
  ldn 6 t24 (fun t25 w =>
  nw 34 #[(.int .i64 0), (.int .i64 0), (.int .i64 0), (.int .i64 0), (.int .i64 0), (.int .i64 0)] (fun t6 w =>
  stn 6 t6 t25 (fun w =>
  ldn 6 t6 (fun t27 w =>
  cl Try.prog 17 #[t3, t27] (fun t28 w =>
  ldn 6 t6 (fun t30 w =>
  cl Try.prog 18 #[t4, t30] (fun t31 w =>
  nck t4 (fun t33 w =>
  fd 0 t33 (fun t34 w =>
  fd 2 t34 (fun t35 w =>
  ld1 t35 (fun t36 w =>
  lnS t36 (fun t37 w =>
  s4_p8 K B1 t3 t4 t20 t21 t22 t37 (.int .i64 0) w) w) w) w) w) w) w) w) w) w) w) w) w) w
def s4_p9_den (K : Value → World → Prop) (M1 : (Nat → Value) → World → Prop) : (Nat → Value) → World → Prop := denL Try.prog [(cd (Try.f4.body.getD .skip) [1, 1, 1, 0, 1, 0, 0, 1, 1, 0, 0, 0]), (cd (Try.f4.body.getD .skip) [1, 1, 1, 0, 1, 0, 0, 1, 1, 0, 0, 1, 0]), (cd (Try.f4.body.getD .skip) [1, 1, 1, 0, 1, 0, 0, 1, 1, 0, 0, 1, 1, 0]), (cd (Try.f4.body.getD .skip) [1, 1, 1, 0, 1, 0, 0, 1, 1, 0, 0, 1, 1, 1, 0])] (s4_p8_den K M1) (fun i => (bif Nat.beq i 1 then (s4_p2_den K M1) else (bif Nat.beq i 0 then (s4_p1_den K) else (fun _ _ => False)))) (s4_R K)
theorem s4_p9_ok (K : Value → World → Prop) (B1 : List Value → World → Prop) (s : Nat → Value) (w : World) (h : s4_p9 K B1 (s 3) (s 4) (s 20) (s 21) (s 22) w) : Tr (s4_p9_den K (fun s w => B1 [s 3, s 4, s 20, s 21, s 22] w) s w) :=
  tr_simple (P := Try.prog) (codes := [(cd (Try.f4.body.getD .skip) [1, 1, 1, 0, 1, 0, 0, 1, 1, 0, 0, 0]), (cd (Try.f4.body.getD .skip) [1, 1, 1, 0, 1, 0, 0, 1, 1, 0, 0, 1, 0]), (cd (Try.f4.body.getD .skip) [1, 1, 1, 0, 1, 0, 0, 1, 1, 0, 0, 1, 1, 0]), (cd (Try.f4.body.getD .skip) [1, 1, 1, 0, 1, 0, 0, 1, 1, 0, 0, 1, 1, 1, 0])]) (N := (fun s w => s4_p8 K B1 (s 3) (s 4) (s 20) (s 21) (s 22) (s 37) (s 38) w)) (N' := (s4_p8_den K (fun s w => B1 [s 3, s 4, s 20, s 21, s 22] w))) (X := (fun i => (bif Nat.beq i 1 then (fun s w => s4_p2 K B1 (s 3) (s 4) (s 20) (s 21) (s 22) w) else (bif Nat.beq i 0 then (fun s w => s4_p1 K w) else (fun _ _ => False))))) (X' := (fun i => (bif Nat.beq i 1 then (s4_p2_den K (fun s w => B1 [s 3, s 4, s 20, s 21, s 22] w)) else (bif Nat.beq i 0 then (s4_p1_den K) else (fun _ _ => False))))) (R := s4_R K) (s := s) (w := w) (p := s4_p9 K B1 (s 3) (s 4) (s 20) (s 21) (s 22) w) (q := s4_p9_den K (fun s w => B1 [s 3, s 4, s 20, s 21, s 22] w) s w) (fun s w h => s4_p8_ok K B1 s w @h) (fun i => (tr_bif (fun s w h => s4_p2_ok K B1 s w @h) (tr_bif (fun s w h => s4_p1_ok K s w @h) tr_id))) (by kernel_rfl) (by kernel_rfl) @h
def s4_p10 (K : Value → World → Prop) (B1 : List Value → World → Prop) (t3 t4 t20 t21 t22 : Value) (w : World) : Prop :=
  boI .lss t22 t21 (fun t23 w =>
  ifb t23
  (s4_p9 K B1 t3 t4 t20 t21 t22 w)
  (s4_p1 K w)) w
def s4_p10_den (K : Value → World → Prop) (M1 : (Nat → Value) → World → Prop) : (Nat → Value) → World → Prop := denL Try.prog [(cd (Try.f4.body.getD .skip) [1, 1, 1, 0, 1, 0, 0, 0]), (cd (Try.f4.body.getD .skip) [1, 1, 1, 0, 1, 0, 0, 1, 0])] (s4_p9_den K M1) (fun i => (bif Nat.beq i 0 then (s4_p1_den K) else (fun _ _ => False))) (s4_R K)
theorem s4_p10_ok (K : Value → World → Prop) (B1 : List Value → World → Prop) (s : Nat → Value) (w : World) (h : s4_p10 K B1 (s 3) (s 4) (s 20) (s 21) (s 22) w) : Tr (s4_p10_den K (fun s w => B1 [s 3, s 4, s 20, s 21, s 22] w) s w) :=
  tr_simple (P := Try.prog) (codes := [(cd (Try.f4.body.getD .skip) [1, 1, 1, 0, 1, 0, 0, 0]), (cd (Try.f4.body.getD .skip) [1, 1, 1, 0, 1, 0, 0, 1, 0])]) (N := (fun s w => s4_p9 K B1 (s 3) (s 4) (s 20) (s 21) (s 22) w)) (N' := (s4_p9_den K (fun s w => B1 [s 3, s 4, s 20, s 21, s 22] w))) (X := (fun i => (bif Nat.beq i 0 then (fun s w => s4_p1 K w) else (fun _ _ => False)))) (X' := (fun i => (bif Nat.beq i 0 then (s4_p1_den K) else (fun _ _ => False)))) (R := s4_R K) (s := s) (w := w) (p := s4_p10 K B1 (s 3) (s 4) (s 20) (s 21) (s 22) w) (q := s4_p10_den K (fun s w => B1 [s 3, s 4, s 20, s 21, s 22] w) s w) (fun s w h => s4_p9_ok K B1 s w @h) (fun i => (tr_bif (fun s w h => s4_p1_ok K s w @h) tr_id)) (by kernel_rfl) (by kernel_rfl) @h
def s4_p11_F (K : Value → World → Prop) (B1 : List Value → World → Prop) (l : List Value) (w : World) : Prop :=
  match l with
  | [t3, t4, t20, t21, t22] => s4_p10 K B1 t3 t4 t20 t21 t22 w
  | _ => False
theorem s4_p11_Fe {K : Value → World → Prop} {B1 : List Value → World → Prop} {t3 t4 t20 t21 t22 : Value} {w : World} : s4_p11_F K B1 [t3, t4, t20, t21, t22] w = s4_p10 K B1 t3 t4 t20 t21 t22 w := by kernel_rfl
def s4_p11 (K : Value → World → Prop) (t3 t4 t20 t21 t22 : Value) (w : World) : Prop :=
  LoopL (s4_p11_F K) [t3, t4, t20, t21, t22] w
def s4_p11_den (K : Value → World → Prop) : (Nat → Value) → World → Prop := fun s w => LoopP (fun M1 s w => s4_p10_den K M1 s w) s w
theorem s4_p11_ok (K : Value → World → Prop) (s : Nat → Value) (w : World) (h : s4_p11 K (s 3) (s 4) (s 20) (s 21) (s 22) w) : Tr (s4_p11_den K s w) :=
  tr_loop (G := fun N' s w => s4_p10_den K N' s w) (F := s4_p11_F K) (sel := fun s => [s 3, s 4, s 20, s 21, s 22]) (s := s) (w := w) (p := s4_p11 K (s 3) (s 4) (s 20) (s 21) (s 22) w) (q := s4_p11_den K s w) (fun B s w h => s4_p10_ok K B s w @h) (by kernel_rfl) (by kernel_rfl) @h
def s4_p12 (K : Value → World → Prop) (t0 : Value) (w : World) : Prop :=
  cl Try.prog 13 #[t0] (fun t15 w =>
  un .not t15 (fun t16 w =>
  ifb t16
  (K (.bool true) w)
  (cl Try.prog 14 #[] (fun t17 w =>
  cl Try.prog 16 #[] (fun t18 w =>
  cl Try.prog 15 #[t18] (fun t19 w =>
  lnS t0 (fun t21 w =>
  s4_p11 K t17 t19 t0 t21 (.int .i64 0) w) w) w) w) w)) w) w
def s4_p12_den (K : Value → World → Prop) : (Nat → Value) → World → Prop := denL Try.prog [(cd (Try.f4.body.getD .skip) [0]), (cd (Try.f4.body.getD .skip) [1, 0, 0]), (cd (Try.f4.body.getD .skip) [1, 0, 1]), (cd (Try.f4.body.getD .skip) [1, 1, 0]), (cd (Try.f4.body.getD .skip) [1, 1, 1, 0, 0])] (s4_p11_den K) (fun i => (fun _ _ => False)) (s4_R K)
theorem s4_p12_ok (K : Value → World → Prop) (s : Nat → Value) (w : World) (h : s4_p12 K (s 0) w) : Tr (s4_p12_den K s w) :=
  tr_simple (P := Try.prog) (codes := [(cd (Try.f4.body.getD .skip) [0]), (cd (Try.f4.body.getD .skip) [1, 0, 0]), (cd (Try.f4.body.getD .skip) [1, 0, 1]), (cd (Try.f4.body.getD .skip) [1, 1, 0]), (cd (Try.f4.body.getD .skip) [1, 1, 1, 0, 0])]) (N := (fun s w => s4_p11 K (s 3) (s 4) (s 20) (s 21) (s 22) w)) (N' := (s4_p11_den K)) (X := (fun i => (fun _ _ => False))) (X' := (fun i => (fun _ _ => False))) (R := s4_R K) (s := s) (w := w) (p := s4_p12 K (s 0) w) (q := s4_p12_den K s w) (fun s w h => s4_p11_ok K s w @h) (fun i => tr_id) (by kernel_rfl) (by kernel_rfl) @h
/-- the call, from the text -/
theorem c4 (t0 : Value) {K : Value → World → Prop} {w : World} (h : s4_p12 K t0 w) : cl Try.prog 4 #[t0] K w :=
  calls_of_tr (c := (Try.f4.body.getD .skip)) (fn := Try.f4) (q := s4_p12_den K (st0 #[t0]) w) Try.func4 (by kernel_rfl) (by kernel_rfl) (Nat.le_of_ble_eq_true (by kernel_rfl)) (by kernel_rfl) (by kernel_rfl) (s4_p12_ok K (st0 #[t0]) w @h)

/-! ### function 5 : e2e.slotslaw.AdmitExactlyIfItFits -/
def s5_R (K : Value → World → Prop) (s : Nat → Value) (w : World) : Prop := retv Try.prog s Try.f5.results.toList (fun vs => K (pack vs) w) w
def s5_p1 (K : Value → World → Prop) (w : World) : Prop :=
  K (.bool true) w
def s5_p1_den (K : Value → World → Prop) : (Nat → Value) → World → Prop := denL Try.prog [(cd (Try.f5.body.getD .skip) [1, 1, 1, 1, 0]), (cd (Try.f5.body.getD .skip) [1, 1, 1, 1, 1])] (fun _ _ => False) (fun i => (fun _ _ => False)) (s5_R K)
theorem s5_p1_ok (K : Value → World → Prop) (s : Nat → Value) (w : World) (h : s5_p1 K w) : Tr (s5_p1_den K s w) :=
  tr_simple (P := Try.prog) (codes := [(cd (Try.f5.body.getD .skip) [1, 1, 1, 1, 0]), (cd (Try.f5.body.getD .skip) [1, 1, 1, 1, 1])]) (N := (fun _ _ => False)) (N' := (fun _ _ => False)) (X := (fun i => (fun _ _ => False))) (X' := (fun i => (fun _ _ => False))) (R := s5_R K) (s := s) (w := w) (p := s5_p1 K w) (q := s5_p1_den K s w) tr_id (fun i => tr_id) (by kernel_rfl) (by kernel_rfl) @h
def s5_p2 (K : Value → World → Prop) (B1 : List Value → World → Prop) (t3 t20 t21 t22 : Value) (w : World) : Prop :=
  boI .add t22 (.int .i64 1) (fun t115 w =>
  B1 [t3, t20, t21, t115] w) w
def s5_p2_den (K : Value → World → Prop) (M1 : (Nat → Value) → World → Prop) : (Nat → Value) → World → Prop := denL Try.prog [(cd (Try.f5.body.getD .skip) [1, 1, 1, 0, 1, 0, 0, 1, 1, 1])] M1 (fun i => (bif Nat.beq i 0 then (s5_p1_den K) else (fun _ _ => False))) (s5_R K)
theorem s5_p2_ok (K : Value → World → Prop) (B1 : List Value → World → Prop) (s : Nat → Value) (w : World) (h : s5_p2 K B1 (s 3) (s 20) (s 21) (s 22) w) : Tr (s5_p2_den K (fun s w => B1 [s 3, s 20, s 21, s 22] w) s w) :=
  tr_simple (P := Try.prog) (codes := [(cd (Try.f5.body.getD .skip) [1, 1, 1, 0, 1, 0, 0, 1, 1, 1])]) (N := (fun s w => B1 [s 3, s 20, s 21, s 22] w)) (N' := (fun s w => B1 [s 3, s 20, s 21, s 22] w)) (X := (fun i => (bif Nat.beq i 0 then (fun s w => s5_p1 K w) else (fun _ _ => False)))) (X' := (fun i => (bif Nat.beq i 0 then (s5_p1_den K) else (fun _ _ => False)))) (R := s5_R K) (s := s) (w := w) (p := s5_p2 K B1 (s 3) (s 20) (s 21) (s 22) w) (q := s5_p2_den K (fun s w => B1 [s 3, s 20, s 21, s 22] w) s w) tr_id (fun i => (tr_bif (fun s w h => s5_p1_ok K s w @h) tr_id)) (by kernel_rfl) (by kernel_rfl) @h
def s5_p3 (K : Value → World → Prop) (B1 : List Value → World → Prop) (t3 t20 t21 t22 t114 : Value) (w : World) : Prop :=
  ifb t114
  (K (.bool false) w)
  (s5_p2 K B1 t3 t20 t21 t22 w)
def s5_p3_den (K : Value → World → Prop) (M1 : (Nat → Value) → World → Prop) : (Nat → Value) → World → Prop := denL Try.prog [(cd (Try.f5.body.getD .skip) [1, 1, 1, 0, 1, 0, 0, 1, 1, 0, 0, 1, 1, 1, 1, 1, 1, 1, 1, 1])] (s5_p2_den K M1) (fun i => (bif Nat.beq i 1 then (s5_p2_den K M1) else (bif Nat.beq i 0 then (s5_p1_den K) else (fun _ _ => False)))) (s5_R K)
theorem s5_p3_ok (K : Value → World → Prop) (B1 : List Value → World → Prop) (s : Nat → Value) (w : World) (h : s5_p3 K B1 (s 3) (s 20) (s 21) (s 22) (s 114) w) : Tr (s5_p3_den K (fun s w => B1 [s 3, s 20, s 21, s 22] w) s w) :=
  tr_simple (P := Try.prog) (codes := [(cd (Try.f5.body.getD .skip) [1, 1, 1, 0, 1, 0, 0, 1, 1, 0, 0, 1, 1, 1, 1, 1, 1, 1, 1, 1])]) (N := (fun s w => s5_p2 K B1 (s 3) (s 20) (s 21) (s 22) w)) (N' := (s5_p2_den K (fun s w => B1 [s 3, s 20, s 21, s 22] w))) (X := (fun i => (bif Nat.beq i 1 then (fun s w => s5_p2 K B1 (s 3) (s 20) (s 21) (s 22) w) else (bif Nat.beq i 0 then (fun s w => s5_p1 K w) else (fun _ _ => False))))) (X' := (fun i => (bif Nat.beq i 1 then (s5_p2_den K (fun s w => B1 [s 3, s 20, s 21, s 22] w)) else (bif Nat.beq i 0 then (s5_p1_den K) else (fun _ _ => False))))) (R := s5_R K) (s := s) (w := w) (p := s5_p3 K B1 (s 3) (s 20) (s 21) (s 22) (s 114) w) (q := s5_p3_den K (fun s w => B1 [s 3, s 20, s 21, s 22] w) s w) (fun s w h => s5_p2_ok K B1 s w @h) (fun i => (tr_bif (fun s w h => s5_p2_ok K B1 s w @h) (tr_bif (fun s w h => s5_p1_ok K s w @h) tr_id))) (by kernel_rfl) (by kernel_rfl) @h
def s5_p4_d (K : Value → World → Prop) (B1 : List Value → World → Prop) (t3 t6 t20 t21 t22 : Value) (w0 w : World) : Prop :=
  ldn 4 t6 (fun t110 _ =>
  cl Try.prog 20 #[t3] (fun t112 w =>
  Below w0.heap.size w0 w ∧
  cl Try.prog 19 #[t110, t112] (fun t113 w =>
  un .not t113 (fun t114 w =>
  s5_p3 K B1 t3 t20 t21 t22 t114 w) w) w) w) w0
def s5_p4 (K : Value → World → Prop) (B1 : List Value → World → Prop) (t3 t6 t20 t21 t22 : Value) (w : World) : Prop := s5_p4_d K B1 t3 t6 t20 t21 t22 (drw w) (drw w)
def s5_p4_den (K : Value → World → Prop) (M1 : (Nat → Value) → World → Prop) : (Nat → Value) → World → Prop := denL Try.prog [(cd (Try.f5.body.getD .skip) [1, 1, 1, 0, 1, 0, 0, 1, 1, 0, 0, 1, 1, 1, 1, 1, 1, 1, 1, 0])] (s5_p3_den K M1) (fun i => (bif Nat.beq i 1 then (s5_p2_den K M1) else (bif Nat.beq i 0 then (s5_p1_den K) else (fun _ _ => False)))) (s5_R K)
theorem s5_p4_ok (K : Value → World → Prop) (B1 : List Value → World → Prop) (s : Nat → Value) (w : World) (h : s5_p4 K B1 (s 3) (s 6) (s 20) (s 21) (s 22) w) : Tr (s5_p4_den K (fun s w => B1 [s 3, s 20, s 21, s 22] w) s w) :=
  tr_draw (P := Try.prog) (ops := (ro (cd (Try.f5.body.getD .skip) [1, 1, 1, 0, 1, 0, 0, 1, 1, 0, 0, 1, 1, 1, 1, 1, 1, 1, 1, 0]))) (ms := [0, 0, 2, 7, 15]) (cs := [0, 1]) (N := (fun s w => s5_p3 K B1 (s 3) (s 20) (s 21) (s 22) (s 114) w)) (N' := (s5_p3_den K (fun s w => B1 [s 3, s 20, s 21, s 22] w))) (s := s) (w := w) (p := s5_p4 K B1 (s 3) (s 6) (s 20) (s 21) (s 22) w) (q := s5_p4_den K (fun s w => B1 [s 3, s 20, s 21, s 22] w) s w) (by kernel_rfl) (by kernel_rfl) (fun s w h => s5_p3_ok K B1 s w @h) (by kernel_rfl) (by kernel_rfl) @h
def s5_p5 (K : Value → World → Prop) (B1 : List Value → World → Prop) (t3 t5 t6 t7 t9 t20 t21 t22 : Value) (w : World) : Prop :=
  boI .eql t7 (.int .i64 0) (fun t102 w =>
  boB .neq t9 t102 (fun t103 w =>
  ifb t103
  (K (.bool false) w)
  (ifb t9
  (ldn 4 t6 (fun t105 w =>
  ldn 6 t5 (fun t106 w =>
  fd 5 t5 (fun t107 w =>
  ld1 t107 (fun t108 w =>
  cl Try.prog 27 #[t105, t106, t108] (fun t109 w =>
  s5_p4 K B1 t3 t6 t20 t21 t22 w) w) w) w) w) w)
  (s5_p4 K B1 t3 t6 t20 t21 t22 w))) w) w
def s5_p5_den (K : Value → World → Prop) (M1 : (Nat → Value) → World → Prop) : (Nat → Value) → World → Prop := denL Try.prog [(cd (Try.f5.body.getD .skip) [1, 1, 1, 0, 1, 0, 0, 1, 1, 0, 0, 1, 1, 1, 1, 1, 1, 0, 0]), (cd (Try.f5.body.getD .skip) [1, 1, 1, 0, 1, 0, 0, 1, 1, 0, 0, 1, 1, 1, 1, 1, 1, 0, 1]), (cd (Try.f5.body.getD .skip) [1, 1, 1, 0, 1, 0, 0, 1, 1, 0, 0, 1, 1, 1, 1, 1, 1, 1, 0, 0]), (cd (Try.f5.body.getD .skip) [1, 1, 1, 0, 1, 0, 0, 1, 1, 0, 0, 1, 1, 1, 1, 1, 1, 1, 0, 1])] (s5_p4_den K M1) (fun i => (bif Nat.beq i 1 then (s5_p2_den K M1) else (bif Nat.beq i 0 then (s5_p1_den K) else (fun _ _ => False)))) (s5_R K)
theorem s5_p5_ok (K : Value → World → Prop) (B1 : List Value → World → Prop) (s : Nat → Value) (w : World) (h : s5_p5 K B1 (s 3) (s 5) (s 6) (s 7) (s 9) (s 20) (s 21) (s 22) w) : Tr (s5_p5_den K (fun s w => B1 [s 3, s 20, s 21, s 22] w) s w) :=
  tr_simple (P := Try.prog) (codes := [(cd (Try.f5.body.getD .skip) [1, 1, 1, 0, 1, 0, 0, 1, 1, 0, 0, 1, 1, 1, 1, 1, 1, 0, 0]), (cd (Try.f5.body.getD .skip) [1, 1, 1, 0, 1, 0, 0, 1, 1, 0, 0, 1, 1, 1, 1, 1, 1, 0, 1]), (cd (Try.f5.body.getD .skip) [1, 1, 1, 0, 1, 0, 0, 1, 1, 0, 0, 1, 1, 1, 1, 1, 1, 1, 0, 0]), (cd (Try.f5.body.getD .skip) [1, 1, 1, 0, 1, 0, 0, 1, 1, 0, 0, 1, 1, 1, 1, 1, 1, 1, 0, 1])]) (N := (fun s w => s5_p4 K B1 (s 3) (s 6) (s 20) (s 21) (s 22) w)) (N' := (s5_p4_den K (fun s w => B1 [s 3, s 20, s 21, s 22] w))) (X := (fun i => (bif Nat.beq i 1 then (fun s w => s5_p2 K B1 (s 3) (s 20) (s 21) (s 22) w) else (bif Nat.beq i 0 then (fun s w => s5_p1 K w) else (fun _ _ => False))))) (X' := (fun i => (bif Nat.beq i 1 then (s5_p2_den K (fun s w => B1 [s 3, s 20, s 21, s 22] w)) else (bif Nat.beq i 0 then (s5_p1_den K) else (fun _ _ => False))))) (R := s5_R K) (s := s) (w := w) (p := s5_p5 K B1 (s 3) (s 5) (s 6) (s 7) (s 9) (s 20) (s 21) (s 22) w) (q := s5_p5_den K (fun s w => B1 [s 3, s 20, s 21, s 22] w) s w) (fun s w h => s5_p4_ok K B1 s w @h) (fun i => (tr_bif (fun s w h => s5_p2_ok K B1 s w @h) (tr_bif (fun s w h => s5_p1_ok K s w @h) tr_id))) (by kernel_rfl) (by kernel_rfl) @h
def s5_p6 (K : Value → World → Prop) (B1 : List Value → World → Prop) (t3 t5 t6 t7 t9 t20 t21 t22 t99 : Value) (w : World) : Prop :=
  ifb t99
  (s5_p5 K B1 t3 t5 t6 t7 (.bool false) t20 t21 t22 w)
  (s5_p5 K B1 t3 t5 t6 t7 t9 t20 t21 t22 w)
def s5_p6_den (K : Value → World → Prop) (M1 : (Nat → Value) → World → Prop) : (Nat → Value) → World → Prop := denL Try.prog [(cd (Try.f5.body.getD .skip) [1, 1, 1, 0, 1, 0, 0, 1, 1, 0, 0, 1, 1, 1, 1, 1, 0, 1, 0, 1, 1, 1, 1])] (s5_p5_den K M1) (fun i => (bif Nat.beq i 1 then (s5_p2_den K M1) else (bif Nat.beq i 0 then (s5_p1_den K) else (fun _ _ => False)))) (s5_R K)
theorem s5_p6_ok (K : Value → World → Prop) (B1 : List Value → World → Prop) (s : Nat → Value) (w : World) (h : s5_p6 K B1 (s 3) (s 5) (s 6) (s 7) (s 9) (s 20) (s 21) (s 22) (s 99) w) : Tr (s5_p6_den K (fun s w => B1 [s 3, s 20, s 21, s 22] w) s w) :=
  tr_simple (P := Try.prog) (codes := [(cd (Try.f5.body.getD .skip) [1, 1, 1, 0, 1, 0, 0, 1, 1, 0, 0, 1, 1, 1, 1, 1, 0, 1, 0, 1, 1, 1, 1])]) (N := (fun s w => s5_p5 K B1 (s 3) (s 5) (s 6) (s 7) (s 9) (s 20) (s 21) (s 22) w)) (N' := (s5_p5_den K (fun s w => B1 [s 3, s 20, s 21, s 22] w))) (X := (fun i => (bif Nat.beq i 1 then (fun s w => s5_p2 K B1 (s 3) (s 20) (s 21) (s 22) w) else (bif Nat.beq i 0 then (fun s w => s5_p1 K w) else (fun _ _ => False))))) (X' := (fun i => (bif Nat.beq i 1 then (s5_p2_den K (fun s w => B1 [s 3, s 20, s 21, s 22] w)) else (bif Nat.beq i 0 then (s5_p1_den K) else (fun _ _ => False))))) (R := s5_R K) (s := s) (w := w) (p := s5_p6 K B1 (s 3) (s 5) (s 6) (s 7) (s 9) (s 20) (s 21) (s 22) (s 99) w) (q := s5_p6_den K (fun s w => B1 [s 3, s 20, s 21, s 22] w) s w) (fun s w h => s5_p5_ok K B1 s w @h) (fun i => (tr_bif (fun s w h => s5_p2_ok K B1 s w @h) (tr_bif (fun s w h => s5_p1_ok K s w @h) tr_id))) (by kernel_rfl) (by kernel_rfl) @h
def s5_p7_d (K : Value → World → Prop) (B1 : List Value → World → Prop) (t3 t5 t6 t7 t9 t10 t14 t20 t21 t22 : Value) (w0 w : World) : Prop :=
  fd 5 t5 (fun t86 _ =>
  ld1 t86 (fun t87 _ =>
  fd 4 t5 (fun t88 _ =>
  ld1 t88 (fun t89 _ =>
  fd 2 t10 (fun t90 _ =>
  ixa 3 1 t90 t89 (fun t91 _ =>
  ld1 t91 (fun t92 _ =>
  fd 4 t5 (fun t93 _ =>
  ld1 t93 (fun t94 _ =>
  fd 1 t14 (fun t95 _ =>
  ixa 3 1 t95 t94 (fun t96 _ =>
  ld1 t96 (fun t97 _ =>
  boI .sub t92 t97 (fun t98 _ =>
  boI .gtr t87 t98 (fun t99 _ =>
  s5_p6 K B1 t3 t5 t6 t7 t9 t20 t21 t22 t99 w) w0) w0) w0) w0) w0) w0) w0) w0) w0) w0) w0) w0) w0) w0
def s5_p7 (K : Value → World → Prop) (B1 : List Value → World → Prop) (t3 t5 t6 t7 t9 t10 t14 t20 t21 t22 : Value) (w : World) : Prop := s5_p7_d K B1 t3 t5 t6 t7 t9 t10 t14 t20 t21 t22 (drw w) (drw w)
def s5_p7_den (K : Value → World → Prop) (M1 : (Nat → Value) → World → Prop) : (Nat → Value) → World → Prop := denL Try.prog [(cd (Try.f5.body.getD .skip) [1, 1, 1, 0, 1, 0, 0, 1, 1, 0, 0, 1, 1, 1, 1, 1, 0, 1, 0, 1, 1, 1, 0])] (s5_p6_den K M1) (fun i => (bif Nat.beq i 1 then (s5_p2_den K M1) else (bif Nat.beq i 0 then (s5_p1_den K) else (fun _ _ => False)))) (s5_R K)
theorem s5_p7_ok (K : Value → World → Prop) (B1 : List Value → World → Prop) (s : Nat → Value) (w : World) (h : s5_p7 K B1 (s 3) (s 5) (s 6) (s 7) (s 9) (s 10) (s 14) (s 20) (s 21) (s 22) w) : Tr (s5_p7_den K (fun s w => B1 [s 3, s 20, s 21, s 22] w) s w) :=
  tr_draw (P := Try.prog) (ops := (ro (cd (Try.f5.body.getD .skip) [1, 1, 1, 0, 1, 0, 0, 1, 1, 0, 0, 1, 1, 1, 1, 1, 0, 1, 0, 1, 1, 1, 0]))) (ms := [0, 1, 0, 4, 0, 28, 60, 0, 128, 0, 896, 1920, 4092, 8191]) (cs := [0, 1, 2, 3, 4, 5, 6, 7, 8, 9, 10, 11, 12, 13]) (N := (fun s w => s5_p6 K B1 (s 3) (s 5) (s 6) (s 7) (s 9) (s 20) (s 21) (s 22) (s 99) w)) (N' := (s5_p6_den K (fun s w => B1 [s 3, s 20, s 21, s 22] w))) (s := s) (w := w) (p := s5_p7 K B1 (s 3) (s 5) (s 6) (s 7) (s 9) (s 10) (s 14) (s 20) (s 21) (s 22) w) (q := s5_p7_den K (fun s w => B1 [s 3, s 20, s 21, s 22] w) s w) (by kernel_rfl) (by kernel_rfl) (fun s w h => s5_p6_ok K B1 s w @h) (by kernel_rfl) (by kernel_rfl) @h
def s5_p8 (K : Value → World → Prop) (B1 : List Value → World → Prop) (t3 t5 t6 t7 t9 t10 t20 t21 t22 : Value) (w : World) : Prop :=
  ldn 4 t6 (fun t78 w =>
  fd 1 t5 (fun t79 w =>
  ld1 t79 (fun t80 w =>
  fd 2 t5 (fun t81 w =>
  ld1 t81 (fun t82 w =>
  cl Try.prog 26 #[t78, t80, t82] (fun t83 w =>
  exq t83 0 (fun t84 w =>
  exq t83 1 (fun t85 w =>
  nw 61 #[(.int .i64 0), (.int .i64 0), (.int .i64 0), (.int .i64 0)] (fun t14 w =>
  stn 4 t14 t84 (fun w =>
  s5_p7 K B1 t3 t5 t6 t7 t9 t10 t14 t20 t21 t22 w) w) w) w) w) w) w) w) w) w) w
def s5_p8_den (K : Value → World → Prop) (M1 : (Nat → Value) → World → Prop) : (Nat → Value) → World → Prop := denL Try.prog [(cd (Try.f5.body.getD .skip) [1, 1, 1, 0, 1, 0, 0, 1, 1, 0, 0, 1, 1, 1, 1, 1, 0, 1, 0, 1, 1, 0])] (s5_p7_den K M1) (fun i => (bif Nat.beq i 1 then (s5_p2_den K M1) else (bif Nat.beq i 0 then (s5_p1_den K) else (fun _ _ => False)))) (s5_R K)
theorem s5_p8_ok (K : Value → World → Prop) (B1 : List Value → World → Prop) (s : Nat → Value) (w : World) (h : s5_p8 K B1 (s 3) (s 5) (s 6) (s 7) (s 9) (s 10) (s 20) (s 21) (s 22) w) : Tr (s5_p8_den K (fun s w => B1 [s 3, s 20, s 21, s 22] w) s w) :=
  tr_simple (P := Try.prog) (codes := [(cd (Try.f5.body.getD .skip) [1, 1, 1, 0, 1, 0, 0, 1, 1, 0, 0, 1, 1, 1, 1, 1, 0, 1, 0, 1, 1, 0])]) (N := (fun s w => s5_p7 K B1 (s 3) (s 5) (s 6) (s 7) (s 9) (s 10) (s 14) (s 20) (s 21) (s 22) w)) (N' := (s5_p7_den K (fun s w => B1 [s 3, s 20, s 21, s 22] w))) (X := (fun i => (bif Nat.beq i 1 then (fun s w => s5_p2 K B1 (s 3) (s 20) (s 21) (s 22) w) else (bif Nat.beq i 0 then (fun s w => s5_p1 K w) else (fun _ _ => False))))) (X' := (fun i => (bif Nat.beq i 1 then (s5_p2_den K (fun s w => B1 [s 3, s 20, s 21, s 22] w)) else (bif Nat.beq i 0 then (s5_p1_den K) else (fun _ _ => False))))) (R := s5_R K) (s := s) (w := w) (p := s5_p8 K B1 (s 3) (s 5) (s 6) (s 7) (s 9) (s 10) (s 20) (s 21) (s 22) w) (q := s5_p8_den K (fun s w => B1 [s 3, s 20, s 21, s 22] w) s w) (fun s w h => s5_p7_ok K B1 s w @h) (fun i => (tr_bif (fun s w h => s5_p2_ok K B1 s w @h) (tr_bif (fun s w h => s5_p1_ok K s w @h) tr_id))) (by kernel_rfl) (by kernel_rfl) @h
def s5_p9 (K : Value → World → Prop) (B1 : List Value → World → Prop) (B2 : List Value → World → Prop) (t3 t5 t6 t7 t9 t10 t11 t20 t21 t22 : Value) (w : World) : Prop :=
  boI .add t11 (.int .i64 1) (fun t58 w =>
  B2 [t3, t5, t6, t7, t9, t10, t58, t20, t21, t22] w) w
def s5_p9_den (K : Value → World → Prop) (M1 : (Nat → Value) → World → Prop) (M2 : (Nat → Value) → World → Prop) : (Nat → Value) → World → Prop := denL Try.prog [(cd (Try.f5.body.getD .skip) [1, 1, 1, 0, 1, 0, 0, 1, 1, 0, 0, 1, 1, 1, 1, 1, 0, 1, 0, 1, 0, 1, 0, 0, 1, 1])] M2 (fun i => (bif Nat.beq i 2 then (s5_p8_den K M1) else (bif Nat.beq i 1 then (s5_p2_den K M1) else (bif Nat.beq i 0 then (s5_p1_den K) else (fun _ _ => False))))) (s5_R K)
theorem s5_p9_ok (K : Value → World → Prop) (B1 : List Value → World → Prop) (B2 : List Value → World → Prop) (s : Nat → Value) (w : World) (h : s5_p9 K B1 B2 (s 3) (s 5) (s 6) (s 7) (s 9) (s 10) (s 11) (s 20) (s 21) (s 22) w) : Tr (s5_p9_den K (fun s w => B1 [s 3, s 20, s 21, s 22] w) (fun s w => B2 [s 3, s 5, s 6, s 7, s 9, s 10, s 11, s 20, s 21, s 22] w) s w) :=
  tr_simple (P := Try.prog) (codes := [(cd (Try.f5.body.getD .skip) [1, 1, 1, 0, 1, 0, 0, 1, 1, 0, 0, 1, 1, 1, 1, 1, 0, 1, 0, 1, 0, 1, 0, 0, 1, 1])]) (N := (fun s w => B2 [s 3, s 5, s 6, s 7, s 9, s 10, s 11, s 20, s 21, s 22] w)) (N' := (fun s w => B2 [s 3, s 5, s 6, s 7, s 9, s 10, s 11, s 20, s 21, s 22] w)) (X := (fun i => (bif Nat.beq i 2 then (fun s w => s5_p8 K B1 (s 3) (s 5) (s 6) (s 7) (s 9) (s 10) (s 20) (s 21) (s 22) w) else (bif Nat.beq i 1 then (fun s w => s5_p2 K B1 (s 3) (s 20) (s 21) (s 22) w) else (bif Nat.beq i 0 then (fun s w => s5_p1 K w) else (fun _ _ => False)))))) (X' := (fun i => (bif Nat.beq i 2 then (s5_p8_den K (fun s w => B1 [s 3, s 20, s 21, s 22] w)) else (bif Nat.beq i 1 then (s5_p2_den K (fun s w => B1 [s 3, s 20, s 21, s 22] w)) else (bif Nat.beq i 0 then (s5_p1_den K) else (fun _ _ => False)))))) (R := s5_R K) (s := s) (w := w) (p := s5_p9 K B1 B2 (s 3) (s 5) (s 6) (s 7) (s 9) (s 10) (s 11) (s 20) (s 21) (s 22) w) (q := s5_p9_den K (fun s w => B1 [s 3, s 20, s 21, s 22] w) (fun s w => B2 [s 3, s 5, s 6, s 7, s 9, s 10, s 11, s 20, s 21, s 22] w) s w) tr_id (fun i => (tr_bif (fun s w h => s5_p8_ok K B1 s w @h) (tr_bif (fun s w h => s5_p2_ok K B1 s w @h) (tr_bif (fun s w h => s5_p1_ok K s w @h) tr_id)))) (by kernel_rfl) (by kernel_rfl) @h
def s5_p10 (K : Value → World → Prop) (B1 : List Value → World → Prop) (B2 : List Value → World → Prop) (t3 t5 t6 t7 t9 t10 t11 t20 t21 t22 : Value) (w : World) : Prop :=
  fd 2 t5 (fun t51 w =>
  ld1 t51 (fun t52 w =>
  fd 1 t10 (fun t53 w =>
  ld1 t53 (fun t54 w =>
  boI .add t52 t54 (fun t55 w =>
  boI .lss t11 t55 (fun t56 w =>
  ifb t56
  (ldn 4 t6 (fun t60 w =>
  fd 1 t5 (fun t61 w =>
  ld1 t61 (fun t62 w =>
  cl Try.prog 26 #[t60, t62, t11] (fun t64 w =>
  exq t64 0 (fun t65 w =>
  exq t64 1 (fun t66 w =>
  nw 61 #[(.int .i64 0), (.int .i64 0), (.int .i64 0), (.int .i64 0)] (fun t12 w =>
  stn 4 t12 t65 (fun w =>
  un .not t66 (fun t68 w =>
  ifb t68
  (K (.bool false) w)
  (fd 5 t5 (fun t69 w =>
  ld1 t69 (fun t70 w =>
  fd 0 t10 (fun t71 w =>
  ld1 t71 (fun t72 w =>
  fd 0 t12 (fun t73 w =>
  ld1 t73 (fun t74 w =>
  boI .sub t72 t74 (fun t75 w =>
  boI .gtr t70 t75 (fun t76 w =>
  ifb t76
  (s5_p9 K B1 B2 t3 t5 t6 t7 (.bool false) t10 t11 t20 t21 t22 w)
  (s5_p9 K B1 B2 t3 t5 t6 t7 t9 t10 t11 t20 t21 t22 w)) w) w) w) w) w) w) w) w)) w) w) w) w) w) w) w) w) w)
  (s5_p8 K B1 t3 t5 t6 t7 t9 t10 t20 t21 t22 w)) w) w) w) w) w) w
def s5_p10_den (K : Value → World → Prop) (M1 : (Nat → Value) → World → Prop) (M2 : (Nat → Value) → World → Prop) : (Nat → Value) → World → Prop := denL Try.prog [(cd (Try.f5.body.getD .skip) [1, 1, 1, 0, 1, 0, 0, 1, 1, 0, 0, 1, 1, 1, 1, 1, 0, 1, 0, 1, 0, 1, 0, 0, 0, 0]), (cd (Try.f5.body.getD .skip) [1, 1, 1, 0, 1, 0, 0, 1, 1, 0, 0, 1, 1, 1, 1, 1, 0, 1, 0, 1, 0, 1, 0, 0, 0, 1]), (cd (Try.f5.body.getD .skip) [1, 1, 1, 0, 1, 0, 0, 1, 1, 0, 0, 1, 1, 1, 1, 1, 0, 1, 0, 1, 0, 1, 0, 0, 1, 0])] (s5_p9_den K M1 M2) (fun i => (bif Nat.beq i 2 then (s5_p8_den K M1) else (bif Nat.beq i 1 then (s5_p2_den K M1) else (bif Nat.beq i 0 then (s5_p1_den K) else (fun _ _ => False))))) (s5_R K)
theorem s5_p10_ok (K : Value → World → Prop) (B1 : List Value → World → Prop) (B2 : List Value → World → Prop) (s : Nat → Value) (w : World) (h : s5_p10 K B1 B2 (s 3) (s 5) (s 6) (s 7) (s 9) (s 10) (s 11) (s 20) (s 21) (s 22) w) : Tr (s5_p10_den K (fun s w => B1 [s 3, s 20, s 21, s 22] w) (fun s w => B2 [s 3, s 5, s 6, s 7, s 9, s 10, s 11, s 20, s 21, s 22] w) s w) :=
  tr_simple (P := Try.prog) (codes := [(cd (Try.f5.body.getD .skip) [1, 1, 1, 0, 1, 0, 0, 1, 1, 0, 0, 1, 1, 1, 1, 1, 0, 1, 0, 1, 0, 1, 0, 0, 0, 0]), (cd (Try.f5.body.getD .skip) [1, 1, 1, 0, 1, 0, 0, 1, 1, 0, 0, 1, 1, 1, 1, 1, 0, 1, 0, 1, 0, 1, 0, 0, 0, 1]), (cd (Try.f5.body.getD .skip) [1, 1, 1, 0, 1, 0, 0, 1, 1, 0, 0, 1, 1, 1, 1, 1, 0, 1, 0, 1, 0, 1, 0, 0, 1, 0])]) (N := (fun s w => s5_p9 K B1 B2 (s 3) (s 5) (s 6) (s 7) (s 9) (s 10) (s 11) (s 20) (s 21) (s 22) w)) (N' := (s5_p9_den K (fun s w => B1 [s 3, s 20, s 21, s 22] w) (fun s w => B2 [s 3, s 5, s 6, s 7, s 9, s 10, s 11, s 20, s 21, s 22] w))) (X := (fun i => (bif Nat.beq i 2 then (fun s w => s5_p8 K B1 (s 3) (s 5) (s 6) (s 7) (s 9) (s 10) (s 20) (s 21) (s 22) w) else (bif Nat.beq i 1 then (fun s w => s5_p2 K B1 (s 3) (s 20) (s 21) (s 22) w) else (bif Nat.beq i 0 then (fun s w => s5_p1 K w) else (fun _ _ => False)))))) (X' := (fun i => (bif Nat.beq i 2 then (s5_p8_den K (fun s w => B1 [s 3, s 20, s 21, s 22] w)) else (bif Nat.beq i 1 then (s5_p2_den K (fun s w => B1 [s 3, s 20, s 21, s 22] w)) else (bif Nat.beq i 0 then (s5_p1_den K) else (fun _ _ => False)))))) (R := s5_R K) (s := s) (w := w) (p := s5_p10 K B1 B2 (s 3) (s 5) (s 6) (s 7) (s 9) (s 10) (s 11) (s 20) (s 21) (s 22) w) (q := s5_p10_den K (fun s w => B1 [s 3, s 20, s 21, s 22] w) (fun s w => B2 [s 3, s 5, s 6, s 7, s 9, s 10, s 11, s 20, s 21, s 22] w) s w) (fun s w h => s5_p9_ok K B1 B2 s w @h) (fun i => (tr_bif (fun s w h => s5_p8_ok K B1 s w @h) (tr_bif (fun s w h => s5_p2_ok K B1 s w @h) (tr_bif (fun s w h => s5_p1_ok K s w @h) tr_id)))) (by kernel_rfl) (by kernel_rfl) @h
def s5_p11_F (K : Value → World → Prop) (B1 : List Value → World → Prop) (B2 : List Value → World → Prop) (l : List Value) (w : World) : Prop :=
  match l with
  | [t3, t5, t6, t7, t9, t10, t11, t20, t21, t22] => s5_p10 K B1 B2 t3 t5 t6 t7 t9 t10 t11 t20 t21 t22 w
  | _ => False
theorem s5_p11_Fe {K : Value → World → Prop} {B1 : List Value → World → Prop} {B2 : List Value → World → Prop} {t3 t5 t6 t7 t9 t10 t11 t20 t21 t22 : Value} {w : World} : s5_p11_F K B1 B2 [t3, t5, t6, t7, t9, t10, t11, t20, t21, t22] w = s5_p10 K B1 B2 t3 t5 t6 t7 t9 t10 t11 t20 t21 t22 w := by kernel_rfl
def s5_p11 (K : Value → World → Prop) (B1 : List Value → World → Prop) (t3 t5 t6 t7 t9 t10 t11 t20 t21 t22 : Value) (w : World) : Prop :=
  LoopL (s5_p11_F K B1) [t3, t5, t6, t7, t9, t10, t11, t20, t21, t22] w
def s5_p11_den (K : Value → World → Prop) (M1 : (Nat → Value) → World → Prop) : (Nat → Value) → World → Prop := fun s w => LoopP (fun M2 s w => s5_p10_den K M1 M2 s w) s w
theorem s5_p11_ok (K : Value → World → Prop) (B1 : List Value → World → Prop) (s : Nat → Value) (w : World) (h : s5_p11 K B1 (s 3) (s 5) (s 6) (s 7) (s 9) (s 10) (s 11) (s 20) (s 21) (s 22) w) : Tr (s5_p11_den K (fun s w => B1 [s 3, s 20, s 21, s 22] w) s w) :=
  tr_loop (G := fun N' s w => s5_p10_den K (fun s w => B1 [s 3, s 20, s 21, s 22] w) N' s w) (F := s5_p11_F K B1) (sel := fun s => [s 3, s 5, s 6, s 7, s 9, s 10, s 11, s 20, s 21, s 22]) (s := s) (w := w) (p := s5_p11 K B1 (s 3) (s 5) (s 6) (s 7) (s 9) (s 10) (s 11) (s 20) (s 21) (s 22) w) (q := s5_p11_den K (fun s w => B1 [s 3, s 20, s 21, s 22] w) s w) (fun B s w h => s5_p10_ok K B1 B s w @h) (by kernel_rfl) (by kernel_rfl) @h
def s5_p12 (K : Value → World → Prop) (B1 : List Value → World → Prop) (t3 t5 t6 t7 t9 t10 t20 t21 t22 : Value) (w : World) : Prop :=
  fd 2 t5 (fun t48 w =>
  ld1 t48 (fun t49 w =>
  s5_p11 K B1 t3 t5 t6 t7 t9 t10 t49 t20 t21 t22 w) w) w
def s5_p12_den (K : Value → World → Prop) (M1 : (Nat → Value) → World → Prop) : (Nat → Value) → World → Prop := denL Try.prog [(cd (Try.f5.body.getD .skip) [1, 1, 1, 0, 1, 0, 0, 1, 1, 0, 0, 1, 1, 1, 1, 1, 0, 1, 0, 1, 0, 0])] (s5_p11_den K M1) (fun i => (bif Nat.beq i 1 then (s5_p2_den K M1) else (bif Nat.beq i 0 then (s5_p1_den K) else (fun _ _ => False)))) (s5_R K)
theorem s5_p12_ok (K : Value → World → Prop) (B1 : List Value → World → Prop) (s : Nat → Value) (w : World) (h : s5_p12 K B1 (s 3) (s 5) (s 6) (s 7) (s 9) (s 10) (s 20) (s 21) (s 22) w) : Tr (s5_p12_den K (fun s w => B1 [s 3, s 20, s 21, s 22] w) s w) :=
  tr_simple (P := Try.prog) (codes := [(cd (Try.f5.body.getD .skip) [1, 1, 1, 0, 1, 0, 0, 1, 1, 0, 0, 1, 1, 1, 1, 1, 0, 1, 0, 1, 0, 0])]) (N := (fun s w => s5_p11 K B1 (s 3) (s 5) (s 6) (s 7) (s 9) (s 10) (s 11) (s 20) (s 21) (s 22) w)) (N' := (s5_p11_den K (fun s w => B1 [s 3, s 20, s 21, s 22] w))) (X := (fun i => (bif Nat.beq i 1 then (fun s w => s5_p2 K B1 (s 3) (s 20) (s 21) (s 22) w) else (bif Nat.beq i 0 then (fun s w => s5_p1 K w) else (fun _ _ => False))))) (X' := (fun i => (bif Nat.beq i 1 then (s5_p2_den K (fun s w => B1 [s 3, s 20, s 21, s 22] w)) else (bif Nat.beq i 0 then (s5_p1_den K) else (fun _ _ => False))))) (R := s5_R K) (s := s) (w := w) (p := s5_p12 K B1 (s 3) (s 5) (s 6) (s 7) (s 9) (s 10) (s 20) (s 21) (s 22) w) (q := s5_p12_den K (fun s w => B1 [s 3, s 20, s 21, s 22] w) s w) (fun s w h => s5_p11_ok K B1 s w @h) (fun i => (tr_bif (fun s w h => s5_p2_ok K B1 s w @h) (tr_bif (fun s w h => s5_p1_ok K s w @h) tr_id))) (by kernel_rfl) (by kernel_rfl) @h
def s5_p13_d (K : Value → World → Prop) (B1 : List Value → World → Prop) (t3 t5 t6 t7 t9 t20 t21 t22 : Value) (w0 w : World) : Prop :=
  fd 1 t5 (fun t44 _ =>
  ld1 t44 (fun t45 _ =>
  (cl Try.prog 16 #[] (fun t42 w =>
  Below w0.heap.size w0 w ∧
  (fi Try.prog 30 t42 2 (fun t43 w =>
  Below w0.heap.size w0 w ∧
  (ixs 5 t43 t45 (fun t46 w =>
  (ldn 5 t46 (fun t47 w =>
  nw 59 #[(.int .i64 0), (.int .i64 0), (.int .i64 0), (.int .i64 0), (.int .i64 0)] (fun t10 w =>
  Below w0.heap.size w0 w ∧
  stn 5 t10 t47 (fun w =>
  s5_p12 K B1 t3 t5 t6 t7 t9 t10 t20 t21 t22 w) w) w) w) ∧
  (nw 59 #[(.int .i64 0), (.int .i64 0), (.int .i64 0), (.int .i64 0), (.int .i64 0)] (fun t10_2 w =>
  Below w0.heap.size w0 w ∧
  ldn 5 t46 (fun t47_2 w =>
  stn 5 t10_2 t47_2 (fun w =>
  s5_p12 K B1 t3 t5 t6 t7 t9 t10_2 t20 t21 t22 w) w) w) w)) w) ∧
  (nw 59 #[(.int .i64 0), (.int .i64 0), (.int .i64 0), (.int .i64 0), (.int .i64 0)] (fun t10_3 w =>
  Below w0.heap.size w0 w ∧
  ixs 5 t43 t45 (fun t46_2 w =>
  ldn 5 t46_2 (fun t47_3 w =>
  stn 5 t10_3 t47_3 (fun w =>
  s5_p12 K B1 t3 t5 t6 t7 t9 t10_3 t20 t21 t22 w) w) w) w) w)) w) ∧
  (nw 59 #[(.int .i64 0), (.int .i64 0), (.int .i64 0), (.int .i64 0), (.int .i64 0)] (fun t10_4 w =>
  Below w0.heap.size w0 w ∧
  fi Try.prog 30 t42 2 (fun t43_2 w =>
  Below w0.heap.size w0 w ∧
  ixs 5 t43_2 t45 (fun t46_3 w =>
  ldn 5 t46_3 (fun t47_4 w =>
  stn 5 t10_4 t47_4 (fun w =>
  s5_p12 K B1 t3 t5 t6 t7 t9 t10_4 t20 t21 t22 w) w) w) w) w) w)) w) ∧
  (nw 59 #[(.int .i64 0), (.int .i64 0), (.int .i64 0), (.int .i64 0), (.int .i64 0)] (fun t10_5 w =>
  Below w0.heap.size w0 w ∧
  cl Try.prog 16 #[] (fun t42_2 w =>
  Below w0.heap.size w0 w ∧
  fi Try.prog 30 t42_2 2 (fun t43_3 w =>
  Below w0.heap.size w0 w ∧
  ixs 5 t43_3 t45 (fun t46_4 w =>
  ldn 5 t46_4 (fun t47_5 w =>
  stn 5 t10_5 t47_5 (fun w =>
  s5_p12 K B1 t3 t5 t6 t7 t9 t10_5 t20 t21 t22 w) w) w) w) w) w) w)) w0) w0
def s5_p13 (K : Value → World → Prop) (B1 : List Value → World → Prop) (t3 t5 t6 t7 t9 t20 t21 t22 : Value) (w : World) : Prop := s5_p13_d K B1 t3 t5 t6 t7 t9 t20 t21 t22 (drw w) (drw w)
def s5_p13_den (K : Value → World → Prop) (M1 : (Nat → Value) → World → Prop) : (Nat → Value) → World → Prop := denL Try.prog [(cd (Try.f5.body.getD .skip) [1, 1, 1, 0, 1, 0, 0, 1, 1, 0, 0, 1, 1, 1, 1, 1, 0, 1, 0, 0])] (s5_p12_den K M1) (fun i => (bif Nat.beq i 1 then (s5_p2_den K M1) else (bif Nat.beq i 0 then (s5_p1_den K) else (fun _ _ => False)))) (s5_R K)
theorem s5_p13_ok (K : Value → World → Prop) (B1 : List Value → World → Prop) (s : Nat → Value) (w : World) (h : s5_p13 K B1 (s 3) (s 5) (s 6) (s 7) (s 9) (s 20) (s 21) (s 22) w) : Tr (s5_p13_den K (fun s w => B1 [s 3, s 20, s 21, s 22] w) s w) :=
  tr_draw (P := Try.prog) (ops := (ro (cd (Try.f5.body.getD .skip) [1, 1, 1, 0, 1, 0, 0, 1, 1, 0, 0, 1, 1, 1, 1, 1, 0, 1, 0, 0]))) (ms := [0, 1, 0, 4, 15, 31, 0, 127]) (cs := [2, 3]) (N := (fun s w => s5_p12 K B1 (s 3) (s 5) (s 6) (s 7) (s 9) (s 10) (s 20) (s 21) (s 22) w)) (N' := (s5_p12_den K (fun s w => B1 [s 3, s 20, s 21, s 22] w))) (s := s) (w := w) (p := s5_p13 K B1 (s 3) (s 5) (s 6) (s 7) (s 9) (s 20) (s 21) (s 22) w) (q := s5_p13_den K (fun s w => B1 [s 3, s 20, s 21, s 22] w) s w) (by kernel_rfl) (by kernel_rfl) (fun s w h => s5_p12_ok K B1 s w @h) (by kernel_rfl) (by kernel_rfl) @h
def s5_p14 (K : Value → World → Prop) (B1 : List Value → World → Prop) (t3 t5 t6 t7 t9 t20 t21 t22 t41 : Value) (w : World) : Prop :=
  ifb t41
  (s5_p13 K B1 t3 t5 t6 t7 t9 t20 t21 t22 w)
  (s5_p5 K B1 t3 t5 t6 t7 t9 t20 t21 t22 w)
def s5_p14_den (K : Value → World → Prop) (M1 : (Nat → Value) → World → Prop) : (Nat → Value) → World → Prop := fun s w => ifb (ev s (.tmp 41)) ((s5_p13_den K M1) s w) ((s5_p5_den K M1) s w)
theorem s5_p14_ok (K : Value → World → Prop) (B1 : List Value → World → Prop) (s : Nat → Value) (w : World) (h : s5_p14 K B1 (s 3) (s 5) (s 6) (s 7) (s 9) (s 20) (s 21) (s 22) (s 41) w) : Tr (s5_p14_den K (fun s w => B1 [s 3, s 20, s 21, s 22] w) s w) :=
  tr_cond (v := ev s (.tmp 41)) (a := (fun s w => s5_p13 K B1 (s 3) (s 5) (s 6) (s 7) (s 9) (s 20) (s 21) (s 22) w) s w) (a' := (s5_p13_den K (fun s w => B1 [s 3, s 20, s 21, s 22] w)) s w) (b := (fun s w => s5_p5 K B1 (s 3) (s 5) (s 6) (s 7) (s 9) (s 20) (s 21) (s 22) w) s w) (b' := (s5_p5_den K (fun s w => B1 [s 3, s 20, s 21, s 22] w)) s w) (p := s5_p14 K B1 (s 3) (s 5) (s 6) (s 7) (s 9) (s 20) (s 21) (s 22) (s 41) w) (q := s5_p14_den K (fun s w => B1 [s 3, s 20, s 21, s 22] w) s w) ((fun s w h => s5_p13_ok K B1 s w @h) s w) ((fun s w h => s5_p5_ok K B1 s w @h) s w) (by kernel_rfl) (by kernel_rfl) @h
def s5_p15 (K : Value → World → Prop) (B1 : List Value → World → Prop) (t3 t20 t21 t22 : Value) (w : World) : Prop :=
  ixs 6 t20 t22 (fun t24 w =>
  ldn 6 t24 (fun t25 w =>
  nw 34 #[(.int .i64 0), (.int .i64 0), (.int .i64 0), (.int .i64 0), (.int .i64 0), (.int .i64 0)] (fun t5 w =>
  stn 6 t5 t25 (fun w =>
  cl Try.prog 20 #[t3] (fun t27 w =>
  nw 43 #[(.bool false), (.int .i64 0), (.slice none 0 0), (.slice none 0 0)] (fun t6 w =>
  stn 4 t6 t27 (fun w =>
  ldn 6 t5 (fun t30 w =>
  cl Try.prog 17 #[t3, t30] (fun t31 w =>
  exq t31 0 (fun t32 w =>
  exq t31 1 (fun t33 w =>
  fd 0 t5 (fun t34 w =>
  ld1 t34 (fun t35 w =>
  boI .neq t35 (.int .i64 0) (fun t36 w =>
  ifb t36
  (s5_p2 K B1 t3 t20 t21 t22 w)
  (ldn 6 t5 (fun t37 w =>
  fd 1 t6 (fun t38 w =>
  ld1 t38 (fun t39 w =>
  cl Try.prog 25 #[t37, t39] (fun t40 w =>
  s5_p14 K B1 t3 t5 t6 t32 t40 t20 t21 t22 t40 w) w) w) w) w)) w) w) w) w) w) w) w) w) w) w) w) w) w) w
def s5_p15_den (K : Value → World → Prop) (M1 : (Nat → Value) → World → Prop) : (Nat → Value) → World → Prop := denL Try.prog [(cd (Try.f5.body.getD .skip) [1, 1, 1, 0, 1, 0, 0, 1, 1, 0, 0, 0]), (cd (Try.f5.body.getD .skip) [1, 1, 1, 0, 1, 0, 0, 1, 1, 0, 0, 1, 0]), (cd (Try.f5.body.getD .skip) [1, 1, 1, 0, 1, 0, 0, 1, 1, 0, 0, 1, 1, 0]), (cd (Try.f5.body.getD .skip) [1, 1, 1, 0, 1, 0, 0, 1, 1, 0, 0, 1, 1, 1, 0, 0]), (cd (Try.f5.body.getD .skip) [1, 1, 1, 0, 1, 0, 0, 1, 1, 0, 0, 1, 1, 1, 0, 1]), (cd (Try.f5.body.getD .skip) [1, 1, 1, 0, 1, 0, 0, 1, 1, 0, 0, 1, 1, 1, 1, 0]), (cd (Try.f5.body.getD .skip) [1, 1, 1, 0, 1, 0, 0, 1, 1, 0, 0, 1, 1, 1, 1, 1, 0, 0])] (s5_p14_den K M1) (fun i => (bif Nat.beq i 1 then (s5_p2_den K M1) else (bif Nat.beq i 0 then (s5_p1_den K) else (fun _ _ => False)))) (s5_R K)
theorem s5_p15_ok (K : Value → World → Prop) (B1 : List Value → World → Prop) (s : Nat → Value) (w : World) (h : s5_p15 K B1 (s 3) (s 20) (s 21) (s 22) w) : Tr (s5_p15_den K (fun s w => B1 [s 3, s 20, s 21, s 22] w) s w) :=
  tr_simple (P := Try.prog) (codes := [(cd (Try.f5.body.getD .skip) [1, 1, 1, 0, 1, 0, 0, 1, 1, 0, 0, 0]), (cd (Try.f5.body.getD .skip) [1, 1, 1, 0, 1, 0, 0, 1, 1, 0, 0, 1, 0]), (cd (Try.f5.body.getD .skip) [1, 1, 1, 0, 1, 0, 0, 1, 1, 0, 0, 1, 1, 0]), (cd (Try.f5.body.getD .skip) [1, 1, 1, 0, 1, 0, 0, 1, 1, 0, 0, 1, 1, 1, 0, 0]), (cd (Try.f5.body.getD .skip) [1, 1, 1, 0, 1, 0, 0, 1, 1, 0, 0, 1, 1, 1, 0, 1]), (cd (Try.f5.body.getD .skip) [1, 1, 1, 0, 1, 0, 0, 1, 1, 0, 0, 1, 1, 1, 1, 0]), (cd (Try.f5.body.getD .skip) [1, 1, 1, 0, 1, 0, 0, 1, 1, 0, 0, 1, 1, 1, 1, 1, 0, 0])]) (N := (fun s w => s5_p14 K B1 (s 3) (s 5) (s 6) (s 7) (s 9) (s 20) (s 21) (s 22) (s 41) w)) (N' := (s5_p14_den K (fun s w => B1 [s 3, s 20, s 21, s 22] w))) (X := (fun i => (bif Nat.beq i 1 then (fun s w => s5_p2 K B1 (s 3) (s 20) (s 21) (s 22) w) else (bif Nat.beq i 0 then (fun s w => s5_p1 K w) else (fun _ _ => False))))) (X' := (fun i => (bif Nat.beq i 1 then (s5_p2_den K (fun s w => B1 [s 3, s 20, s 21, s 22] w)) else (bif Nat.beq i 0 then (s5_p1_den K) else (fun _ _ => False))))) (R := s5_R K) (s := s) (w := w) (p := s5_p15 K B1 (s 3) (s 20) (s 21) (s 22) w) (q := s5_p15_den K (fun s w => B1 [s 3, s 20, s 21, s 22] w) s w) (fun s w h => s5_p14_ok K B1 s w @h) (fun i => (tr_bif (fun s w h => s5_p2_ok K B1 s w @h) (tr_bif (fun s w h => s5_p1_ok K s w @h) tr_id))) (by kernel_rfl) (by kernel_rfl) @h
def s5_p16 (K : Value → World → Prop) (B1 : List Value → World → Prop) (t3 t20 t21 t22 : Value) (w : World) : Prop :=
  boI .lss t22 t21 (fun t23 w =>
  ifb t23
  (s5_p15 K B1 t3 t20 t21 t22 w)
  (s5_p1 K w)) w
def s5_p16_den (K : Value → World → Prop) (M1 : (Nat → Value) → World → Prop) : (Nat → Value) → World → Prop := denL Try.prog [(cd (Try.f5.body.getD .skip) [1, 1, 1, 0, 1, 0, 0, 0]), (cd (Try.f5.body.getD .skip) [1, 1, 1, 0, 1, 0, 0, 1, 0])] (s5_p15_den K M1) (fun i => (bif Nat.beq i 0 then (s5_p1_den K) else (fun _ _ => False))) (s5_R K)
theorem s5_p16_ok (K : Value → World → Prop) (B1 : List Value → World → Prop) (s : Nat → Value) (w : World) (h : s5_p16 K B1 (s 3) (s 20) (s 21) (s 22) w) : Tr (s5_p16_den K (fun s w => B1 [s 3, s 20, s 21, s 22] w) s w) :=
  tr_simple (P := Try.prog) (codes := [(cd (Try.f5.body.getD .skip) [1, 1, 1, 0, 1, 0, 0, 0]), (cd (Try.f5.body.getD .skip) [1, 1, 1, 0, 1, 0, 0, 1, 0])]) (N := (fun s w => s5_p15 K B1 (s 3) (s 20) (s 21) (s 22) w)) (N' := (s5_p15_den K (fun s w => B1 [s 3, s 20, s 21, s 22] w))) (X := (fun i => (bif Nat.beq i 0 then (fun s w => s5_p1 K w) else (fun _ _ => False)))) (X' := (fun i => (bif Nat.beq i 0 then (s5_p1_den K) else (fun _ _ => False)))) (R := s5_R K) (s := s) (w := w) (p := s5_p16 K B1 (s 3) (s 20) (s 21) (s 22) w) (q := s5_p16_den K (fun s w => B1 [s 3, s 20, s 21, s 22] w) s w) (fun s w h => s5_p15_ok K B1 s w @h) (fun i => (tr_bif (fun s w h => s5_p1_ok K s w @h) tr_id)) (by kernel_rfl) (by kernel_rfl) @h
def s5_p17_F (K : Value → World → Prop) (B1 : List Value → World → Prop) (l : List Value) (w : World) : Prop :=
  match l with
  | [t3, t20, t21, t22] => s5_p16 K B1 t3 t20 t21 t22 w
  | _ => False
theorem s5_p17_Fe {K : Value → World → Prop} {B1 : List Value → World → Prop} {t3 t20 t21 t22 : Value} {w : World} : s5_p17_F K B1 [t3, t20, t21, t22] w = s5_p16 K B1 t3 t20 t21 t22 w := by kernel_rfl
def s5_p17 (K : Value → World → Prop) (t3 t20 t21 t22 : Value) (w : World) : Prop :=
  LoopL (s5_p17_F K) [t3, t20, t21, t22] w
def s5_p17_den (K : Value → World → Prop) : (Nat → Value) → World → Prop := fun s w => LoopP (fun M1 s w => s5_p16_den K M1 s w) s w
theorem s5_p17_ok (K : Value → World → Prop) (s : Nat → Value) (w : World) (h : s5_p17 K (s 3) (s 20) (s 21) (s 22) w) : Tr (s5_p17_den K s w) :=
  tr_loop (G := fun N' s w => s5_p16_den K N' s w) (F := s5_p17_F K) (sel := fun s => [s 3, s 20, s 21, s 22]) (s := s) (w := w) (p := s5_p17 K (s 3) (s 20) (s 21) (s 22) w) (q := s5_p17_den K s w) (fun B s w h => s5_p16_ok K B s w @h) (by kernel_rfl) (by kernel_rfl) @h
def s5_p18 (K : Value → World → Prop) (t0 : Value) (w : World) : Prop :=
  cl Try.prog 13 #[t0] (fun t17 w =>
  un .not t17 (fun t18 w =>
  ifb t18
  (K (.bool true) w)
  (cl Try.prog 14 #[] (fun t19 w =>
  lnS t0 (fun t21 w =>
  s5_p17 K t19 t0 t21 (.int .i64 0) w) w) w)) w) w
def s5_p18_den (K : Value → World → Prop) : (Nat → Value) → World → Prop := denL Try.prog [(cd (Try.f5.body.getD .skip) [0]), (cd (Try.f5.body.getD .skip) [1, 0, 0]), (cd (Try.f5.body.getD .skip) [1, 0, 1]), (cd (Try.f5.body.getD .skip) [1, 1, 0]), (cd (Try.f5.body.getD .skip) [1, 1, 1, 0, 0])] (s5_p17_den K) (fun i => (fun _ _ => False)) (s5_R K)
theorem s5_p18_ok (K : Value → World → Prop) (s : Nat → Value) (w : World) (h : s5_p18 K (s 0) w) : Tr (s5_p18_den K s w) :=
  tr_simple (P := Try.prog) (codes := [(cd (Try.f5.body.getD .skip) [0]), (cd (Try.f5.body.getD .skip) [1, 0, 0]), (cd (Try.f5.body.getD .skip) [1, 0, 1]), (cd (Try.f5.body.getD .skip) [1, 1, 0]), (cd (Try.f5.body.getD .skip) [1, 1, 1, 0, 0])]) (N := (fun s w => s5_p17 K (s 3) (s 20) (s 21) (s 22) w)) (N' := (s5_p17_den K)) (X := (fun i => (fun _ _ => False))) (X' := (fun i => (fun _ _ => False))) (R := s5_R K) (s := s) (w := w) (p := s5_p18 K (s 0) w) (q := s5_p18_den K s w) (fun s w h => s5_p17_ok K s w @h) (fun i => tr_id) (by kernel_rfl) (by kernel_rfl) @h
/-- the call, from the text -/
theorem c5 (t0 : Value) {K : Value → World → Prop} {w : World} (h : s5_p18 K t0 w) : cl Try.prog 5 #[t0] K w :=
  calls_of_tr (c := (Try.f5.body.getD .skip)) (fn := Try.f5) (q := s5_p18_den K (st0 #[t0]) w) Try.func5 (by kernel_rfl) (by kernel_rfl) (Nat.le_of_ble_eq_true (by kernel_rfl)) (by kernel_rfl) (by kernel_rfl) (s5_p18_ok K (st0 #[t0]) w @h)

/-! ### function 6 : e2e.slotslaw.ReleaseUndoesAdmit -/
def s6_R (K : Value → World → Prop) (s : Nat → Value) (w : World) : Prop := retv Try.prog s Try.f6.results.toList (fun vs => K (pack vs) w) w
def s6_p1 (K : Value → World → Prop) (w : World) : Prop :=
  K (.bool true) w
def s6_p1_den (K : Value → World → Prop) : (Nat → Value) → World → Prop := denL Try.prog [(cd (Try.f6.body.getD .skip) [1, 1, 1, 1, 0]), (cd (Try.f6.body.getD .skip) [1, 1, 1, 1, 1])] (fun _ _ => False) (fun i => (fun _ _ => False)) (s6_R K)
theorem s6_p1_ok (K : Value → World → Prop) (s : Nat → Value) (w : World) (h : s6_p1 K w) : Tr (s6_p1_den K s w) :=
  tr_simple (P := Try.prog) (codes := [(cd (Try.f6.body.getD .skip) [1, 1, 1, 1, 0]), (cd (Try.f6.body.getD .skip) [1, 1, 1, 1, 1])]) (N := (fun _ _ => False)) (N' := (fun _ _ => False)) (X := (fun i => (fun _ _ => False))) (X' := (fun i => (fun _ _ => False))) (R := s6_R K) (s := s) (w := w) (p := s6_p1 K w) (q := s6_p1_den K s w) tr_id (fun i => tr_id) (by kernel_rfl) (by kernel_rfl) @h
def s6_p2 (K : Value → World → Prop) (B1 : List Value → World → Prop) (t3 t15 t16 t17 : Value) (w : World) : Prop :=
  boI .add t17 (.int .i64 1) (fun t144 w =>
  B1 [t3, t15, t16, t144] w) w
def s6_p2_den (K : Value → World → Prop) (M1 : (Nat → Value) → World → Prop) : (Nat → Value) → World → Prop := denL Try.prog [(cd (Try.f6.body.getD .skip) [1, 1, 1, 0, 1, 0, 0, 1, 1, 1])] M1 (fun i => (bif Nat.beq i 0 then (s6_p1_den K) else (fun _ _ => False))) (s6_R K)
theorem s6_p2_ok (K : Value → World → Prop) (B1 : List Value → World → Prop) (s : Nat → Value) (w : World) (h : s6_p2 K B1 (s 3) (s 15) (s 16) (s 17) w) : Tr (s6_p2_den K (fun s w => B1 [s 3, s 15, s 16, s 17] w) s w) :=
  tr_simple (P := Try.prog) (codes := [(cd (Try.f6.body.getD .skip) [1, 1, 1, 0, 1, 0, 0, 1, 1, 1])]) (N := (fun s w => B1 [s 3, s 15, s 16, s 17] w)) (N' := (fun s w => B1 [s 3, s 15, s 16, s 17] w)) (X := (fun i => (bif Nat.beq i 0 then (fun s w => s6_p1 K w) else (fun _ _ => False)))) (X' := (fun i => (bif Nat.beq i 0 then (s6_p1_den K) else (fun _ _ => False)))) (R := s6_R K) (s := s) (w := w) (p := s6_p2 K B1 (s 3) (s 15) (s 16) (s 17) w) (q := s6_p2_den K (fun s w => B1 [s 3, s 15, s 16, s 17] w) s w) tr_id (fun i => (tr_bif (fun s w h => s6_p1_ok K s w @h) tr_id)) (by kernel_rfl) (by kernel_rfl) @h
def s6_p3 (K : Value → World → Prop) (B1 : List Value → World → Prop) (t3 t15 t16 t17 t143 : Value) (w : World) : Prop :=
  ifb t143
  (K (.bool false) w)
  (s6_p2 K B1 t3 t15 t16 t17 w)
def s6_p3_den (K : Value → World → Prop) (M1 : (Nat → Value) → World → Prop) : (Nat → Value) → World → Prop := denL Try.prog [(cd (Try.f6.body.getD .skip) [1, 1, 1, 0, 1, 0, 0, 1, 1, 0, 0, 1, 1, 1, 1, 1, 1, 1, 1, 1])] (s6_p2_den K M1) (fun i => (bif Nat.beq i 1 then (s6_p2_den K M1) else (bif Nat.beq i 0 then (s6_p1_den K) else (fun _ _ => False)))) (s6_R K)
theorem s6_p3_ok (K : Value → World → Prop) (B1 : List Value → World → Prop) (s : Nat → Value) (w : World) (h : s6_p3 K B1 (s 3) (s 15) (s 16) (s 17) (s 143) w) : Tr (s6_p3_den K (fun s w => B1 [s 3, s 15, s 16, s 17] w) s w) :=
  tr_simple (P := Try.prog) (codes := [(cd (Try.f6.body.getD .skip) [1, 1, 1, 0, 1, 0, 0, 1, 1, 0, 0, 1, 1, 1, 1, 1, 1, 1, 1, 1])]) (N := (fun s w => s6_p2 K B1 (s 3) (s 15) (s 16) (s 17) w)) (N' := (s6_p2_den K (fun s w => B1 [s 3, s 15, s 16, s 17] w))) (X := (fun i => (bif Nat.beq i 1 then (fun s w => s6_p2 K B1 (s 3) (s 15) (s 16) (s 17) w) else (bif Nat.beq i 0 then (fun s w => s6_p1 K w) else (fun _ _ => False))))) (X' := (fun i => (bif Nat.beq i 1 then (s6_p2_den K (fun s w => B1 [s 3, s 15, s 16, s 17] w)) else (bif Nat.beq i 0 then (s6_p1_den K) else (fun _ _ => False))))) (R := s6_R K) (s := s) (w := w) (p := s6_p3 K B1 (s 3) (s 15) (s 16) (s 17) (s 143) w) (q := s6_p3_den K (fun s w => B1 [s 3, s 15, s 16, s 17] w) s w) (fun s w h => s6_p2_ok K B1 s w @h) (fun i => (tr_bif (fun s w h => s6_p2_ok K B1 s w @h) (tr_bif (fun s w h => s6_p1_ok K s w @h) tr_id))) (by kernel_rfl) (by kernel_rfl) @h
def s6_p4_d (K : Value → World → Prop) (B1 : List Value → World → Prop) (t3 t6 t15 t16 t17 : Value) (w0 w : World) : Prop :=
  ldn 4 t6 (fun t139 _ =>
  cl Try.prog 20 #[t3] (fun t141 w =>
  Below w0.heap.size w0 w ∧
  cl Try.prog 19 #[t139, t141] (fun t142 w =>
  un .not t142 (fun t143 w =>
  s6_p3 K B1 t3 t15 t16 t17 t143 w) w) w) w) w0
def s6_p4 (K : Value → World → Prop) (B1 : List Value → World → Prop) (t3 t6 t15 t16 t17 : Value) (w : World) : Prop := s6_p4_d K B1 t3 t6 t15 t16 t17 (drw w) (drw w)
def s6_p4_den (K : Value → World → Prop) (M1 : (Nat → Value) → World → Prop) : (Nat → Value) → World → Prop := denL Try.prog [(cd (Try.f6.body.getD .skip) [1, 1, 1, 0, 1, 0, 0, 1, 1, 0, 0, 1, 1, 1, 1, 1, 1, 1, 1, 0])] (s6_p3_den K M1) (fun i => (bif Nat.beq i 1 then (s6_p2_den K M1) else (bif Nat.beq i 0 then (s6_p1_den K) else (fun _ _ => False)))) (s6_R K)
theorem s6_p4_ok (K : Value → World → Prop) (B1 : List Value → World → Prop) (s : Nat → Value) (w : World) (h : s6_p4 K B1 (s 3) (s 6) (s 15) (s 16) (s 17) w) : Tr (s6_p4_den K (fun s w => B1 [s 3, s 15, s 16, s 17] w) s w) :=
  tr_draw (P := Try.prog) (ops := (ro (cd (Try.f6.body.getD .skip) [1, 1, 1, 0, 1, 0, 0, 1, 1, 0, 0, 1, 1, 1, 1, 1, 1, 1, 1, 0]))) (ms := [0, 0, 2, 7, 15]) (cs := [0, 1]) (N := (fun s w => s6_p3 K B1 (s 3) (s 15) (s 16) (s 17) (s 143) w)) (N' := (s6_p3_den K (fun s w => B1 [s 3, s 15, s 16, s 17] w))) (s := s) (w := w) (p := s6_p4 K B1 (s 3) (s 6) (s 15) (s 16) (s 17) w) (q := s6_p4_den K (fun s w => B1 [s 3, s 15, s 16, s 17] w) s w) (by kernel_rfl) (by kernel_rfl) (fun s w h => s6_p3_ok K B1 s w @h) (by kernel_rfl) (by kernel_rfl) @h
def s6_p5 (K : Value → World → Prop) (B1 : List Value → World → Prop) (t3 t6 t7 t15 t16 t17 : Value) (w : World) : Prop :=
  boI .eql t7 (.int .i64 0) (fun t127 w =>
  ifb t127
  (K (.bool false) w)
  (s6_p4 K B1 t3 t6 t15 t16 t17 w)) w
def s6_p5_den (K : Value → World → Prop) (M1 : (Nat → Value) → World → Prop) : (Nat → Value) → World → Prop := denL Try.prog [(cd (Try.f6.body.getD .skip) [1, 1, 1, 0, 1, 0, 0, 1, 1, 0, 0, 1, 1, 1, 1, 1, 1, 1, 0, 0, 1, 0, 0]), (cd (Try.f6.body.getD .skip) [1, 1, 1, 0, 1, 0, 0, 1, 1, 0, 0, 1, 1, 1, 1, 1, 1, 1, 0, 0, 1, 0, 1])] (s6_p4_den K M1) (fun i => (bif Nat.beq i 2 then (s6_p4_den K M1) else (bif Nat.beq i 1 then (s6_p2_den K M1) else (bif Nat.beq i 0 then (s6_p1_den K) else (fun _ _ => False))))) (s6_R K)
theorem s6_p5_ok (K : Value → World → Prop) (B1 : List Value → World → Prop) (s : Nat → Value) (w : World) (h : s6_p5 K B1 (s 3) (s 6) (s 7) (s 15) (s 16) (s 17) w) : Tr (s6_p5_den K (fun s w => B1 [s 3, s 15, s 16, s 17] w) s w) :=
  tr_simple (P := Try.prog) (codes := [(cd (Try.f6.body.getD .skip) [1, 1, 1, 0, 1, 0, 0, 1, 1, 0, 0, 1, 1, 1, 1, 1, 1, 1, 0, 0, 1, 0, 0]), (cd (Try.f6.body.getD .skip) [1, 1, 1, 0, 1, 0, 0, 1, 1, 0, 0, 1, 1, 1, 1, 1, 1, 1, 0, 0, 1, 0, 1])]) (N := (fun s w => s6_p4 K B1 (s 3) (s 6) (s 15) (s 16) (s 17) w)) (N' := (s6_p4_den K (fun s w => B1 [s 3, s 15, s 16, s 17] w))) (X := (fun i => (bif Nat.beq i 2 then (fun s w => s6_p4 K B1 (s 3) (s 6) (s 15) (s 16) (s 17) w) else (bif Nat.beq i 1 then (fun s w => s6_p2 K B1 (s 3) (s 15) (s 16) (s 17) w) else (bif Nat.beq i 0 then (fun s w => s6_p1 K w) else (fun _ _ => False)))))) (X' := (fun i => (bif Nat.beq i 2 then (s6_p4_den K (fun s w => B1 [s 3, s 15, s 16, s 17] w)) else (bif Nat.beq i 1 then (s6_p2_den K (fun s w => B1 [s 3, s 15, s 16, s 17] w)) else (bif Nat.beq i 0 then (s6_p1_den K) else (fun _ _ => False)))))) (R := s6_R K) (s := s) (w := w) (p := s6_p5 K B1 (s 3) (s 6) (s 7) (s 15) (s 16) (s 17) w) (q := s6_p5_den K (fun s w => B1 [s 3, s 15, s 16, s 17] w) s w) (fun s w h => s6_p4_ok K B1 s w @h) (fun i => (tr_bif (fun s w h => s6_p4_ok K B1 s w @h) (tr_bif (fun s w h => s6_p2_ok K B1 s w @h) (tr_bif (fun s w h => s6_p1_ok K s w @h) tr_id)))) (by kernel_rfl) (by kernel_rfl) @h
def s6_p6 (K : Value → World → Prop) (B1 : List Value → World → Prop) (t3 t5 t6 t7 t15 t16 t17 t128 : Value) (w : World) : Prop :=
  ifb t128
  (boI .neq t7 (.int .i64 7) (fun t138 w =>
  ifb t138
  (K (.bool false) w)
  (s6_p4 K B1 t3 t6 t15 t16 t17 w)) w)
  (boI .neq t7 (.int .i64 0) (fun t116 w =>
  ifb t116
  (K (.bool false) w)
  (ldn 4 t6 (fun t117 w =>
  ldn 6 t5 (fun t118 w =>
  fd 5 t5 (fun t119 w =>
  ld1 t119 (fun t120 w =>
  un .neg t120 (fun t121 w =>
  cl Try.prog 27 #[t117, t118, t121] (fun t122 w =>
  s6_p4 K B1 t3 t6 t15 t16 t17 w) w) w) w) w) w) w)) w)
def s6_p6_den (K : Value → World → Prop) (M1 : (Nat → Value) → World → Prop) : (Nat → Value) → World → Prop := denL Try.prog [(cd (Try.f6.body.getD .skip) [1, 1, 1, 0, 1, 0, 0, 1, 1, 0, 0, 1, 1, 1, 1, 1, 1, 1, 0, 0, 1, 1, 1])] (s6_p4_den K M1) (fun i => (bif Nat.beq i 2 then (s6_p4_den K M1) else (bif Nat.beq i 1 then (s6_p2_den K M1) else (bif Nat.beq i 0 then (s6_p1_den K) else (fun _ _ => False))))) (s6_R K)
theorem s6_p6_ok (K : Value → World → Prop) (B1 : List Value → World → Prop) (s : Nat → Value) (w : World) (h : s6_p6 K B1 (s 3) (s 5) (s 6) (s 7) (s 15) (s 16) (s 17) (s 128) w) : Tr (s6_p6_den K (fun s w => B1 [s 3, s 15, s 16, s 17] w) s w) :=
  tr_simple (P := Try.prog) (codes := [(cd (Try.f6.body.getD .skip) [1, 1, 1, 0, 1, 0, 0, 1, 1, 0, 0, 1, 1, 1, 1, 1, 1, 1, 0, 0, 1, 1, 1])]) (N := (fun s w => s6_p4 K B1 (s 3) (s 6) (s 15) (s 16) (s 17) w)) (N' := (s6_p4_den K (fun s w => B1 [s 3, s 15, s 16, s 17] w))) (X := (fun i => (bif Nat.beq i 2 then (fun s w => s6_p4 K B1 (s 3) (s 6) (s 15) (s 16) (s 17) w) else (bif Nat.beq i 1 then (fun s w => s6_p2 K B1 (s 3) (s 15) (s 16) (s 17) w) else (bif Nat.beq i 0 then (fun s w => s6_p1 K w) else (fun _ _ => False)))))) (X' := (fun i => (bif Nat.beq i 2 then (s6_p4_den K (fun s w => B1 [s 3, s 15, s 16, s 17] w)) else (bif Nat.beq i 1 then (s6_p2_den K (fun s w => B1 [s 3, s 15, s 16, s 17] w)) else (bif Nat.beq i 0 then (s6_p1_den K) else (fun _ _ => False)))))) (R := s6_R K) (s := s) (w := w) (p := s6_p6 K B1 (s 3) (s 5) (s 6) (s 7) (s 15) (s 16) (s 17) (s 128) w) (q := s6_p6_den K (fun s w => B1 [s 3, s 15, s 16, s 17] w) s w) (fun s w h => s6_p4_ok K B1 s w @h) (fun i => (tr_bif (fun s w h => s6_p4_ok K B1 s w @h) (tr_bif (fun s w h => s6_p2_ok K B1 s w @h) (tr_bif (fun s w h => s6_p1_ok K s w @h) tr_id)))) (by kernel_rfl) (by kernel_rfl) @h
def s6_p7_d (K : Value → World → Prop) (B1 : List Value → World → Prop) (t3 t5 t6 t7 t9 t15 t16 t17 : Value) (w0 w : World) : Prop :=
  fd 5 t5 (fun t129 _ =>
  ld1 t129 (fun t130 _ =>
  fd 4 t5 (fun t131 _ =>
  ld1 t131 (fun t132 _ =>
  fd 1 t9 (fun t133 _ =>
  ixa 3 1 t133 t132 (fun t134 _ =>
  ld1 t134 (fun t135 _ =>
  boI .gtr t130 t135 (fun t136 _ =>
  s6_p6 K B1 t3 t5 t6 t7 t15 t16 t17 t136 w) w0) w0) w0) w0) w0) w0) w0) w0
def s6_p7 (K : Value → World → Prop) (B1 : List Value → World → Prop) (t3 t5 t6 t7 t9 t15 t16 t17 : Value) (w : World) : Prop := s6_p7_d K B1 t3 t5 t6 t7 t9 t15 t16 t17 (drw w) (drw w)
def s6_p7_den (K : Value → World → Prop) (M1 : (Nat → Value) → World → Prop) : (Nat → Value) → World → Prop := denL Try.prog [(cd (Try.f6.body.getD .skip) [1, 1, 1, 0, 1, 0, 0, 1, 1, 0, 0, 1, 1, 1, 1, 1, 1, 1, 0, 0, 1, 1, 0])] (s6_p6_den K M1) (fun i => (bif Nat.beq i 2 then (s6_p4_den K M1) else (bif Nat.beq i 1 then (s6_p2_den K M1) else (bif Nat.beq i 0 then (s6_p1_den K) else (fun _ _ => False))))) (s6_R K)
theorem s6_p7_ok (K : Value → World → Prop) (B1 : List Value → World → Prop) (s : Nat → Value) (w : World) (h : s6_p7 K B1 (s 3) (s 5) (s 6) (s 7) (s 9) (s 15) (s 16) (s 17) w) : Tr (s6_p7_den K (fun s w => B1 [s 3, s 15, s 16, s 17] w) s w) :=
  tr_draw (P := Try.prog) (ops := (ro (cd (Try.f6.body.getD .skip) [1, 1, 1, 0, 1, 0, 0, 1, 1, 0, 0, 1, 1, 1, 1, 1, 1, 1, 0, 0, 1, 1, 0]))) (ms := [0, 1, 0, 4, 0, 28, 60, 127, 255]) (cs := [0, 1, 2, 3, 4, 5, 6, 7, 8]) (N := (fun s w => s6_p6 K B1 (s 3) (s 5) (s 6) (s 7) (s 15) (s 16) (s 17) (s 128) w)) (N' := (s6_p6_den K (fun s w => B1 [s 3, s 15, s 16, s 17] w))) (s := s) (w := w) (p := s6_p7 K B1 (s 3) (s 5) (s 6) (s 7) (s 9) (s 15) (s 16) (s 17) w) (q := s6_p7_den K (fun s w => B1 [s 3, s 15, s 16, s 17] w) s w) (by kernel_rfl) (by kernel_rfl) (fun s w h => s6_p6_ok K B1 s w @h) (by kernel_rfl) (by kernel_rfl) @h
def s6_p8 (K : Value → World → Prop) (B1 : List Value → World → Prop) (t3 t5 t6 t7 t9 t15 t16 t17 t123 : Value) (w : World) : Prop :=
  ifb t123
  (s6_p5 K B1 t3 t6 t7 t15 t16 t17 w)
  (s6_p7 K B1 t3 t5 t6 t7 t9 t15 t16 t17 w)
def s6_p8_den (K : Value → World → Prop) (M1 : (Nat → Value) → World → Prop) : (Nat → Value) → World → Prop := fun s w => ifb (ev s (.tmp 123)) ((s6_p5_den K M1) s w) ((s6_p7_den K M1) s w)
theorem s6_p8_ok (K : Value → World → Prop) (B1 : List Value → World → Prop) (s : Nat → Value) (w : World) (h : s6_p8 K B1 (s 3) (s 5) (s 6) (s 7) (s 9) (s 15) (s 16) (s 17) (s 123) w) : Tr (s6_p8_den K (fun s w => B1 [s 3, s 15, s 16, s 17] w) s w) :=
  tr_cond (v := ev s (.tmp 123)) (a := (fun s w => s6_p5 K B1 (s 3) (s 6) (s 7) (s 15) (s 16) (s 17) w) s w) (a' := (s6_p5_den K (fun s w => B1 [s 3, s 15, s 16, s 17] w)) s w) (b := (fun s w => s6_p7 K B1 (s 3) (s 5) (s 6) (s 7) (s 9) (s 15) (s 16) (s 17) w) s w) (b' := (s6_p7_den K (fun s w => B1 [s 3, s 15, s 16, s 17] w)) s w) (p := s6_p8 K B1 (s 3) (s 5) (s 6) (s 7) (s 9) (s 15) (s 16) (s 17) (s 123) w) (q := s6_p8_den K (fun s w => B1 [s 3, s 15, s 16, s 17] w) s w) ((fun s w h => s6_p5_ok K B1 s w @h) s w) ((fun s w h => s6_p7_ok K B1 s w @h) s w) (by kernel_rfl) (by kernel_rfl) @h
def s6_p9 (K : Value → World → Prop) (B1 : List Value → World → Prop) (t3 t5 t6 t7 t9 t10 t15 t16 t17 : Value) (w : World) : Prop :=
  un .not t10 (fun t125 w =>
  s6_p8 K B1 t3 t5 t6 t7 t9 t15 t16 t17 t125 w) w
def s6_p9_den (K : Value → World → Prop) (M1 : (Nat → Value) → World → Prop) : (Nat → Value) → World → Prop := denL Try.prog [(cd (Try.f6.body.getD .skip) [1, 1, 1, 0, 1, 0, 0, 1, 1, 0, 0, 1, 1, 1, 1, 1, 1, 1, 0, 0, 0])] (s6_p8_den K M1) (fun i => (bif Nat.beq i 2 then (s6_p4_den K M1) else (bif Nat.beq i 1 then (s6_p2_den K M1) else (bif Nat.beq i 0 then (s6_p1_den K) else (fun _ _ => False))))) (s6_R K)
theorem s6_p9_ok (K : Value → World → Prop) (B1 : List Value → World → Prop) (s : Nat → Value) (w : World) (h : s6_p9 K B1 (s 3) (s 5) (s 6) (s 7) (s 9) (s 10) (s 15) (s 16) (s 17) w) : Tr (s6_p9_den K (fun s w => B1 [s 3, s 15, s 16, s 17] w) s w) :=
  tr_simple (P := Try.prog) (codes := [(cd (Try.f6.body.getD .skip) [1, 1, 1, 0, 1, 0, 0, 1, 1, 0, 0, 1, 1, 1, 1, 1, 1, 1, 0, 0, 0])]) (N := (fun s w => s6_p8 K B1 (s 3) (s 5) (s 6) (s 7) (s 9) (s 15) (s 16) (s 17) (s 123) w)) (N' := (s6_p8_den K (fun s w => B1 [s 3, s 15, s 16, s 17] w))) (X := (fun i => (bif Nat.beq i 2 then (fun s w => s6_p4 K B1 (s 3) (s 6) (s 15) (s 16) (s 17) w) else (bif Nat.beq i 1 then (fun s w => s6_p2 K B1 (s 3) (s 15) (s 16) (s 17) w) else (bif Nat.beq i 0 then (fun s w => s6_p1 K w) else (fun _ _ => False)))))) (X' := (fun i => (bif Nat.beq i 2 then (s6_p4_den K (fun s w => B1 [s 3, s 15, s 16, s 17] w)) else (bif Nat.beq i 1 then (s6_p2_den K (fun s w => B1 [s 3, s 15, s 16, s 17] w)) else (bif Nat.beq i 0 then (s6_p1_den K) else (fun _ _ => False)))))) (R := s6_R K) (s := s) (w := w) (p := s6_p9 K B1 (s 3) (s 5) (s 6) (s 7) (s 9) (s 10) (s 15) (s 16) (s 17) w) (q := s6_p9_den K (fun s w => B1 [s 3, s 15, s 16, s 17] w) s w) (fun s w h => s6_p8_ok K B1 s w @h) (fun i => (tr_bif (fun s w h => s6_p4_ok K B1 s w @h) (tr_bif (fun s w h => s6_p2_ok K B1 s w @h) (tr_bif (fun s w h => s6_p1_ok K s w @h) tr_id)))) (by kernel_rfl) (by kernel_rfl) @h
def s6_p10_d (K : Value → World → Prop) (B1 : List Value → World → Prop) (t3 t5 t6 t7 t9 t10 t15 t16 t17 : Value) (w : World) : Prop :=
  (gd t10 true (fd 2 t5) (fun t106 w =>
  (gd t10 true (ld1 t106) (fun t107 w =>
  (gd t10 true (fd 1 t6) (fun t108 w =>
  (gd t10 true (ld1 t108) (fun t109 w =>
  gd t10 true (cl Try.prog 16 #[]) (fun t110 w =>
  gd t10 true (fi Try.prog 30 t110 0) (fun t111 w =>
  gd t10 true (boI .add t109 t111) (fun t112 w =>
  gd t10 true (boI .lss t107 t112) (fun t113 w =>
  pk t10 t113 (.bool false) (fun t114 w =>
  s6_p9 K B1 t3 t5 t6 t7 t9 t114 t15 t16 t17 w) w) w) w) w) w) w) ∧
  (gd t10 true (cl Try.prog 16 #[]) (fun t110_2 w =>
  (gd t10 true (ld1 t108) (fun t109_2 w =>
  gd t10 true (fi Try.prog 30 t110_2 0) (fun t111_2 w =>
  gd t10 true (boI .add t109_2 t111_2) (fun t112_2 w =>
  gd t10 true (boI .lss t107 t112_2) (fun t113_2 w =>
  pk t10 t113_2 (.bool false) (fun t114_2 w =>
  s6_p9 K B1 t3 t5 t6 t7 t9 t114_2 t15 t16 t17 w) w) w) w) w) w) ∧
  (gd t10 true (fi Try.prog 30 t110_2 0) (fun t111_3 w =>
  gd t10 true (ld1 t108) (fun t109_3 w =>
  gd t10 true (boI .add t109_3 t111_3) (fun t112_3 w =>
  gd t10 true (boI .lss t107 t112_3) (fun t113_3 w =>
  pk t10 t113_3 (.bool false) (fun t114_3 w =>
  s6_p9 K B1 t3 t5 t6 t7 t9 t114_3 t15 t16 t17 w) w) w) w) w) w)) w)) w) ∧
  (gd t10 true (cl Try.prog 16 #[]) (fun t110_3 w =>
  (gd t10 true (fd 1 t6) (fun t108_2 w =>
  (gd t10 true (ld1 t108_2) (fun t109_4 w =>
  gd t10 true (fi Try.prog 30 t110_3 0) (fun t111_4 w =>
  gd t10 true (boI .add t109_4 t111_4) (fun t112_4 w =>
  gd t10 true (boI .lss t107 t112_4) (fun t113_4 w =>
  pk t10 t113_4 (.bool false) (fun t114_4 w =>
  s6_p9 K B1 t3 t5 t6 t7 t9 t114_4 t15 t16 t17 w) w) w) w) w) w) ∧
  (gd t10 true (fi Try.prog 30 t110_3 0) (fun t111_5 w =>
  gd t10 true (ld1 t108_2) (fun t109_5 w =>
  gd t10 true (boI .add t109_5 t111_5) (fun t112_5 w =>
  gd t10 true (boI .lss t107 t112_5) (fun t113_5 w =>
  pk t10 t113_5 (.bool false) (fun t114_5 w =>
  s6_p9 K B1 t3 t5 t6 t7 t9 t114_5 t15 t16 t17 w) w) w) w) w) w)) w) ∧
  (gd t10 true (fi Try.prog 30 t110_3 0) (fun t111_6 w =>
  gd t10 true (fd 1 t6) (fun t108_3 w =>
  gd t10 true (ld1 t108_3) (fun t109_6 w =>
  gd t10 true (boI .add t109_6 t111_6) (fun t112_6 w =>
  gd t10 true (boI .lss t107 t112_6) (fun t113_6 w =>
  pk t10 t113_6 (.bool false) (fun t114_6 w =>
  s6_p9 K B1 t3 t5 t6 t7 t9 t114_6 t15 t16 t17 w) w) w) w) w) w) w)) w)) w) ∧
  (gd t10 true (fd 1 t6) (fun t108_4 w =>
  (gd t10 true (ld1 t106) (fun t107_2 w =>
  (gd t10 true (ld1 t108_4) (fun t109_7 w =>
  gd t10 true (cl Try.prog 16 #[]) (fun t110_4 w =>
  gd t10 true (fi Try.prog 30 t110_4 0) (fun t111_7 w =>
  gd t10 true (boI .add t109_7 t111_7) (fun t112_7 w =>
  gd t10 true (boI .lss t107_2 t112_7) (fun t113_7 w =>
  pk t10 t113_7 (.bool false) (fun t114_7 w =>
  s6_p9 K B1 t3 t5 t6 t7 t9 t114_7 t15 t16 t17 w) w) w) w) w) w) w) ∧
  (gd t10 true (cl Try.prog 16 #[]) (fun t110_5 w =>
  (gd t10 true (ld1 t108_4) (fun t109_8 w =>
  gd t10 true (fi Try.prog 30 t110_5 0) (fun t111_8 w =>
  gd t10 true (boI .add t109_8 t111_8) (fun t112_8 w =>
  gd t10 true (boI .lss t107_2 t112_8) (fun t113_8 w =>
  pk t10 t113_8 (.bool false) (fun t114_8 w =>
  s6_p9 K B1 t3 t5 t6 t7 t9 t114_8 t15 t16 t17 w) w) w) w) w) w) ∧
  (gd t10 true (fi Try.prog 30 t110_5 0) (fun t111_9 w =>
  gd t10 true (ld1 t108_4) (fun t109_9 w =>
  gd t10 true (boI .add t109_9 t111_9) (fun t112_9 w =>
  gd t10 true (boI .lss t107_2 t112_9) (fun t113_9 w =>
  pk t10 t113_9 (.bool false) (fun t114_9 w =>
  s6_p9 K B1 t3 t5 t6 t7 t9 t114_9 t15 t16 t17 w) w) w) w) w) w)) w)) w) ∧
  (gd t10 true (ld1 t108_4) (fun t109_10 w =>
  (gd t10 true (ld1 t106) (fun t107_3 w =>
  gd t10 true (cl Try.prog 16 #[]) (fun t110_6 w =>
  gd t10 true (fi Try.prog 30 t110_6 0) (fun t111_10 w =>
  gd t10 true (boI .add t109_10 t111_10) (fun t112_10 w =>
  gd t10 true (boI .lss t107_3 t112_10) (fun t113_10 w =>
  pk t10 t113_10 (.bool false) (fun t114_10 w =>
  s6_p9 K B1 t3 t5 t6 t7 t9 t114_10 t15 t16 t17 w) w) w) w) w) w) w) ∧
  (gd t10 true (cl Try.prog 16 #[]) (fun t110_7 w =>
  (gd t10 true (ld1 t106) (fun t107_4 w =>
  gd t10 true (fi Try.prog 30 t110_7 0) (fun t111_11 w =>
  gd t10 true (boI .add t109_10 t111_11) (fun t112_11 w =>
  gd t10 true (boI .lss t107_4 t112_11) (fun t113_11 w =>
  pk t10 t113_11 (.bool false) (fun t114_11 w =>
  s6_p9 K B1 t3 t5 t6 t7 t9 t114_11 t15 t16 t17 w) w) w) w) w) w) ∧
  (gd t10 true (fi Try.prog 30 t110_7 0) (fun t111_12 w =>
  (gd t10 true (ld1 t106) (fun t107_5 w =>
  gd t10 true (boI .add t109_10 t111_12) (fun t112_12 w =>
  gd t10 true (boI .lss t107_5 t112_12) (fun t113_12 w =>
  pk t10 t113_12 (.bool false) (fun t114_12 w =>
  s6_p9 K B1 t3 t5 t6 t7 t9 t114_12 t15 t16 t17 w) w) w) w) w) ∧
  (gd t10 true (boI .add t109_10 t111_12) (fun t112_13 w =>
  gd t10 true (ld1 t106) (fun t107_6 w =>
  gd t10 true (boI .lss t107_6 t112_13) (fun t113_13 w =>
  pk t10 t113_13 (.bool false) (fun t114_13 w =>
  s6_p9 K B1 t3 t5 t6 t7 t9 t114_13 t15 t16 t17 w) w) w) w) w)) w)) w)) w) ∧
  (gd t10 true (cl Try.prog 16 #[]) (fun t110_8 w =>
  (gd t10 true (ld1 t106) (fun t107_7 w =>
  (gd t10 true (ld1 t108_4) (fun t109_11 w =>
  gd t10 true (fi Try.prog 30 t110_8 0) (fun t111_13 w =>
  gd t10 true (boI .add t109_11 t111_13) (fun t112_14 w =>
  gd t10 true (boI .lss t107_7 t112_14) (fun t113_14 w =>
  pk t10 t113_14 (.bool false) (fun t114_14 w =>
  s6_p9 K B1 t3 t5 t6 t7 t9 t114_14 t15 t16 t17 w) w) w) w) w) w) ∧
  (gd t10 true (fi Try.prog 30 t110_8 0) (fun t111_14 w =>
  gd t10 true (ld1 t108_4) (fun t109_12 w =>
  gd t10 true (boI .add t109_12 t111_14) (fun t112_15 w =>
  gd t10 true (boI .lss t107_7 t112_15) (fun t113_15 w =>
  pk t10 t113_15 (.bool false) (fun t114_15 w =>
  s6_p9 K B1 t3 t5 t6 t7 t9 t114_15 t15 t16 t17 w) w) w) w) w) w)) w) ∧
  (gd t10 true (ld1 t108_4) (fun t109_13 w =>
  (gd t10 true (ld1 t106) (fun t107_8 w =>
  gd t10 true (fi Try.prog 30 t110_8 0) (fun t111_15 w =>
  gd t10 true (boI .add t109_13 t111_15) (fun t112_16 w =>
  gd t10 true (boI .lss t107_8 t112_16) (fun t113_16 w =>
  pk t10 t113_16 (.bool false) (fun t114_16 w =>
  s6_p9 K B1 t3 t5 t6 t7 t9 t114_16 t15 t16 t17 w) w) w) w) w) w) ∧
  (gd t10 true (fi Try.prog 30 t110_8 0) (fun t111_16 w =>
  (gd t10 true (ld1 t106) (fun t107_9 w =>
  gd t10 true (boI .add t109_13 t111_16) (fun t112_17 w =>
  gd t10 true (boI .lss t107_9 t112_17) (fun t113_17 w =>
  pk t10 t113_17 (.bool false) (fun t114_17 w =>
  s6_p9 K B1 t3 t5 t6 t7 t9 t114_17 t15 t16 t17 w) w) w) w) w) ∧
  (gd t10 true (boI .add t109_13 t111_16) (fun t112_18 w =>
  gd t10 true (ld1 t106) (fun t107_10 w =>
  gd t10 true (boI .lss t107_10 t112_18) (fun t113_18 w =>
  pk t10 t113_18 (.bool false) (fun t114_18 w =>
  s6_p9 K B1 t3 t5 t6 t7 t9 t114_18 t15 t16 t17 w) w) w) w) w)) w)) w) ∧
  (gd t10 true (fi Try.prog 30 t110_8 0) (fun t111_17 w =>
  (gd t10 true (ld1 t106) (fun t107_11 w =>
  gd t10 true (ld1 t108_4) (fun t109_14 w =>
  gd t10 true (boI .add t109_14 t111_17) (fun t112_19 w =>
  gd t10 true (boI .lss t107_11 t112_19) (fun t113_19 w =>
  pk t10 t113_19 (.bool false) (fun t114_19 w =>
  s6_p9 K B1 t3 t5 t6 t7 t9 t114_19 t15 t16 t17 w) w) w) w) w) w) ∧
  (gd t10 true (ld1 t108_4) (fun t109_15 w =>
  (gd t10 true (ld1 t106) (fun t107_12 w =>
  gd t10 true (boI .add t109_15 t111_17) (fun t112_20 w =>
  gd t10 true (boI .lss t107_12 t112_20) (fun t113_20 w =>
  pk t10 t113_20 (.bool false) (fun t114_20 w =>
  s6_p9 K B1 t3 t5 t6 t7 t9 t114_20 t15 t16 t17 w) w) w) w) w) ∧
  (gd t10 true (boI .add t109_15 t111_17) (fun t112_21 w =>
  gd t10 true (ld1 t106) (fun t107_13 w =>
  gd t10 true (boI .lss t107_13 t112_21) (fun t113_21 w =>
  pk t10 t113_21 (.bool false) (fun t114_21 w =>
  s6_p9 K B1 t3 t5 t6 t7 t9 t114_21 t15 t16 t17 w) w) w) w) w)) w)) w)) w)) w) ∧
  (gd t10 true (cl Try.prog 16 #[]) (fun t110_9 w =>
  (gd t10 true (ld1 t106) (fun t107_14 w =>
  (gd t10 true (fd 1 t6) (fun t108_5 w =>
  (gd t10 true (ld1 t108_5) (fun t109_16 w =>
  gd t10 true (fi Try.prog 30 t110_9 0) (fun t111_18 w =>
  gd t10 true (boI .add t109_16 t111_18) (fun t112_22 w =>
  gd t10 true (boI .lss t107_14 t112_22) (fun t113_22 w =>
  pk t10 t113_22 (.bool false) (fun t114_22 w =>
  s6_p9 K B1 t3 t5 t6 t7 t9 t114_22 t15 t16 t17 w) w) w) w) w) w) ∧
  (gd t10 true (fi Try.prog 30 t110_9 0) (fun t111_19 w =>
  gd t10 true (ld1 t108_5) (fun t109_17 w =>
  gd t10 true (boI .add t109_17 t111_19) (fun t112_23 w =>
  gd t10 true (boI .lss t107_14 t112_23) (fun t113_23 w =>
  pk t10 t113_23 (.bool false) (fun t114_23 w =>
  s6_p9 K B1 t3 t5 t6 t7 t9 t114_23 t15 t16 t17 w) w) w) w) w) w)) w) ∧
  (gd t10 true (fi Try.prog 30 t110_9 0) (fun t111_20 w =>
  gd t10 true (fd 1 t6) (fun t108_6 w =>
  gd t10 true (ld1 t108_6) (fun t109_18 w =>
  gd t10 true (boI .add t109_18 t111_20) (fun t112_24 w =>
  gd t10 true (boI .lss t107_14 t112_24) (fun t113_24 w =>
  pk t10 t113_24 (.bool false) (fun t114_24 w =>
  s6_p9 K B1 t3 t5 t6 t7 t9 t114_24 t15 t16 t17 w) w) w) w) w) w) w)) w) ∧
  (gd t10 true (fd 1 t6) (fun t108_7 w =>
  (gd t10 true (ld1 t106) (fun t107_15 w =>
  (gd t10 true (ld1 t108_7) (fun t109_19 w =>
  gd t10 true (fi Try.prog 30 t110_9 0) (fun t111_21 w =>
  gd t10 true (boI .add t109_19 t111_21) (fun t112_25 w =>
  gd t10 true (boI .lss t107_15 t112_25) (fun t113_25 w =>
  pk t10 t113_25 (.bool false) (fun t114_25 w =>
  s6_p9 K B1 t3 t5 t6 t7 t9 t114_25 t15 t16 t17 w) w) w) w) w) w) ∧
  (gd t10 true (fi Try.prog 30 t110_9 0) (fun t111_22 w =>
  gd t10 true (ld1 t108_7) (fun t109_20 w =>
  gd t10 true (boI .add t109_20 t111_22) (fun t112_26 w =>
  gd t10 true (boI .lss t107_15 t112_26) (fun t113_26 w =>
  pk t10 t113_26 (.bool false) (fun t114_26 w =>
  s6_p9 K B1 t3 t5 t6 t7 t9 t114_26 t15 t16 t17 w) w) w) w) w) w)) w) ∧
  (gd t10 true (ld1 t108_7) (fun t109_21 w =>
  (gd t10 true (ld1 t106) (fun t107_16 w =>
  gd t10 true (fi Try.prog 30 t110_9 0) (fun t111_23 w =>
  gd t10 true (boI .add t109_21 t111_23) (fun t112_27 w =>
  gd t10 true (boI .lss t107_16 t112_27) (fun t113_27 w =>
  pk t10 t113_27 (.bool false) (fun t114_27 w =>
  s6_p9 K B1 t3 t5 t6 t7 t9 t114_27 t15 t16 t17 w) w) w) w) w) w) ∧
  (gd t10 true (fi Try.prog 30 t110_9 0) (fun t111_24 w =>
  (gd t10 true (ld1 t106) (fun t107_17 w =>
  gd t10 true (boI .add t109_21 t111_24) (fun t112_28 w =>
  gd t10 true (boI .lss t107_17 t112_28) (fun t113_28 w =>
  pk t10 t113_28 (.bool false) (fun t114_28 w =>
  s6_p9 K B1 t3 t5 t6 t7 t9 t114_28 t15 t16 t17 w) w) w) w) w) ∧
  (gd t10 true (boI .add t109_21 t111_24) (fun t112_29 w =>
  gd t10 true (ld1 t106) (fun t107_18 w =>
  gd t10 true (boI .lss t107_18 t112_29) (fun t113_29 w =>
  pk t10 t113_29 (.bool false) (fun t114_29 w =>
  s6_p9 K B1 t3 t5 t6 t7 t9 t114_29 t15 t16 t17 w) w) w) w) w)) w)) w) ∧
  (gd t10 true (fi Try.prog 30 t110_9 0) (fun t111_25 w =>
  (gd t10 true (ld1 t106) (fun t107_19 w =>
  gd t10 true (ld1 t108_7) (fun t109_22 w =>
  gd t10 true (boI .add t109_22 t111_25) (fun t112_30 w =>
  gd t10 true (boI .lss t107_19 t112_30) (fun t113_30 w =>
  pk t10 t113_30 (.bool false) (fun t114_30 w =>
  s6_p9 K B1 t3 t5 t6 t7 t9 t114_30 t15 t16 t17 w) w) w) w) w) w) ∧
  (gd t10 true (ld1 t108_7) (fun t109_23 w =>
  (gd t10 true (ld1 t106) (fun t107_20 w =>
  gd t10 true (boI .add t109_23 t111_25) (fun t112_31 w =>
  gd t10 true (boI .lss t107_20 t112_31) (fun t113_31 w =>
  pk t10 t113_31 (.bool false) (fun t114_31 w =>
  s6_p9 K B1 t3 t5 t6 t7 t9 t114_31 t15 t16 t17 w) w) w) w) w) ∧
  (gd t10 true (boI .add t109_23 t111_25) (fun t112_32 w =>
  gd t10 true (ld1 t106) (fun t107_21 w =>
  gd t10 true (boI .lss t107_21 t112_32) (fun t113_32 w =>
  pk t10 t113_32 (.bool false) (fun t114_32 w =>
  s6_p9 K B1 t3 t5 t6 t7 t9 t114_32 t15 t16 t17 w) w) w) w) w)) w)) w)) w) ∧
  (gd t10 true (fi Try.prog 30 t110_9 0) (fun t111_26 w =>
  (gd t10 true (ld1 t106) (fun t107_22 w =>
  gd t10 true (fd 1 t6) (fun t108_8 w =>
  gd t10 true (ld1 t108_8) (fun t109_24 w =>
  gd t10 true (boI .add t109_24 t111_26) (fun t112_33 w =>
  gd t10 true (boI .lss t107_22 t112_33) (fun t113_33 w =>
  pk t10 t113_33 (.bool false) (fun t114_33 w =>
  s6_p9 K B1 t3 t5 t6 t7 t9 t114_33 t15 t16 t17 w) w) w) w) w) w) w) ∧
  (gd t10 true (fd 1 t6) (fun t108_9 w =>
  (gd t10 true (ld1 t106) (fun t107_23 w =>
  gd t10 true (ld1 t108_9) (fun t109_25 w =>
  gd t10 true (boI .add t109_25 t111_26) (fun t112_34 w =>
  gd t10 true (boI .lss t107_23 t112_34) (fun t113_34 w =>
  pk t10 t113_34 (.bool false) (fun t114_34 w =>
  s6_p9 K B1 t3 t5 t6 t7 t9 t114_34 t15 t16 t17 w) w) w) w) w) w) ∧
  (gd t10 true (ld1 t108_9) (fun t109_26 w =>
  (gd t10 true (ld1 t106) (fun t107_24 w =>
  gd t10 true (boI .add t109_26 t111_26) (fun t112_35 w =>
  gd t10 true (boI .lss t107_24 t112_35) (fun t113_35 w =>
  pk t10 t113_35 (.bool false) (fun t114_35 w =>
  s6_p9 K B1 t3 t5 t6 t7 t9 t114_35 t15 t16 t17 w) w) w) w) w) ∧
  (gd t10 true (boI .add t109_26 t111_26) (fun t112_36 w =>
  gd t10 true (ld1 t106) (fun t107_25 w =>
  gd t10 true (boI .lss t107_25 t112_36) (fun t113_36 w =>
  pk t10 t113_36 (.bool false) (fun t114_36 w =>
  s6_p9 K B1 t3 t5 t6 t7 t9 t114_36 t15 t16 t17 w) w) w) w) w)) w)) w)) w)) w)) w) ∧
  (gd t10 true (fd 1 t6) (fun t108_10 w =>
  (gd t10 true (fd 2 t5) (fun t106_2 w =>
  (gd t10 true (ld1 t106_2) (fun t107_26 w =>
  (gd t10 true (ld1 t108_10) (fun t109_27 w =>
  gd t10 true (cl Try.prog 16 #[]) (fun t110_10 w =>
  gd t10 true (fi Try.prog 30 t110_10 0) (fun t111_27 w =>
  gd t10 true (boI .add t109_27 t111_27) (fun t112_37 w =>
  gd t10 true (boI .lss t107_26 t112_37) (fun t113_37 w =>
  pk t10 t113_37 (.bool false) (fun t114_37 w =>
  s6_p9 K B1 t3 t5 t6 t7 t9 t114_37 t15 t16 t17 w) w) w) w) w) w) w) ∧
  (gd t10 true (cl Try.prog 16 #[]) (fun t110_11 w =>
  (gd t10 true (ld1 t108_10) (fun t109_28 w =>
  gd t10 true (fi Try.prog 30 t110_11 0) (fun t111_28 w =>
  gd t10 true (boI .add t109_28 t111_28) (fun t112_38 w =>
  gd t10 true (boI .lss t107_26 t112_38) (fun t113_38 w =>
  pk t10 t113_38 (.bool false) (fun t114_38 w =>
  s6_p9 K B1 t3 t5 t6 t7 t9 t114_38 t15 t16 t17 w) w) w) w) w) w) ∧
  (gd t10 true (fi Try.prog 30 t110_11 0) (fun t111_29 w =>
  gd t10 true (ld1 t108_10) (fun t109_29 w =>
  gd t10 true (boI .add t109_29 t111_29) (fun t112_39 w =>
  gd t10 true (boI .lss t107_26 t112_39) (fun t113_39 w =>
  pk t10 t113_39 (.bool false) (fun t114_39 w =>
  s6_p9 K B1 t3 t5 t6 t7 t9 t114_39 t15 t16 t17 w) w) w) w) w) w)) w)) w) ∧
  (gd t10 true (ld1 t108_10) (fun t109_30 w =>
  (gd t10 true (ld1 t106_2) (fun t107_27 w =>
  gd t10 true (cl Try.prog 16 #[]) (fun t110_12 w =>
  gd t10 true (fi Try.prog 30 t110_12 0) (fun t111_30 w =>
  gd t10 true (boI .add t109_30 t111_30) (fun t112_40 w =>
  gd t10 true (boI .lss t107_27 t112_40) (fun t113_40 w =>
  pk t10 t113_40 (.bool false) (fun t114_40 w =>
  s6_p9 K B1 t3 t5 t6 t7 t9 t114_40 t15 t16 t17 w) w) w) w) w) w) w) ∧
  (gd t10 true (cl Try.prog 16 #[]) (fun t110_13 w =>
  (gd t10 true (ld1 t106_2) (fun t107_28 w =>
  gd t10 true (fi Try.prog 30 t110_13 0) (fun t111_31 w =>
  gd t10 true (boI .add t109_30 t111_31) (fun t112_41 w =>
  gd t10 true (boI .lss t107_28 t112_41) (fun t113_41 w =>
  pk t10 t113_41 (.bool false) (fun t114_41 w =>
  s6_p9 K B1 t3 t5 t6 t7 t9 t114_41 t15 t16 t17 w) w) w) w) w) w) ∧
  (gd t10 true (fi Try.prog 30 t110_13 0) (fun t111_32 w =>
  (gd t10 true (ld1 t106_2) (fun t107_29 w =>
  gd t10 true (boI .add t109_30 t111_32) (fun t112_42 w =>
  gd t10 true (boI .lss t107_29 t112_42) (fun t113_42 w =>
  pk t10 t113_42 (.bool false) (fun t114_42 w =>
  s6_p9 K B1 t3 t5 t6 t7 t9 t114_42 t15 t16 t17 w) w) w) w) w) ∧
  (gd t10 true (boI .add t109_30 t111_32) (fun t112_43 w =>
  gd t10 true (ld1 t106_2) (fun t107_30 w =>
  gd t10 true (boI .lss t107_30 t112_43) (fun t113_43 w =>
  pk t10 t113_43 (.bool false) (fun t114_43 w =>
  s6_p9 K B1 t3 t5 t6 t7 t9 t114_43 t15 t16 t17 w) w) w) w) w)) w)) w)) w) ∧
  (gd t10 true (cl Try.prog 16 #[]) (fun t110_14 w =>
  (gd t10 true (ld1 t106_2) (fun t107_31 w =>
  (gd t10 true (ld1 t108_10) (fun t109_31 w =>
  gd t10 true (fi Try.prog 30 t110_14 0) (fun t111_33 w =>
  gd t10 true (boI .add t109_31 t111_33) (fun t112_44 w =>
  gd t10 true (boI .lss t107_31 t112_44) (fun t113_44 w =>
  pk t10 t113_44 (.bool false) (fun t114_44 w =>
  s6_p9 K B1 t3 t5 t6 t7 t9 t114_44 t15 t16 t17 w) w) w) w) w) w) ∧
  (gd t10 true (fi Try.prog 30 t110_14 0) (fun t111_34 w =>
  gd t10 true (ld1 t108_10) (fun t109_32 w =>
  gd t10 true (boI .add t109_32 t111_34) (fun t112_45 w =>
  gd t10 true (boI .lss t107_31 t112_45) (fun t113_45 w =>
  pk t10 t113_45 (.bool false) (fun t114_45 w =>
  s6_p9 K B1 t3 t5 t6 t7 t9 t114_45 t15 t16 t17 w) w) w) w) w) w)) w) ∧
  (gd t10 true (ld1 t108_10) (fun t109_33 w =>
  (gd t10 true (ld1 t106_2) (fun t107_32 w =>
  gd t10 true (fi Try.prog 30 t110_14 0) (fun t111_35 w =>
  gd t10 true (boI .add t109_33 t111_35) (fun t112_46 w =>
  gd t10 true (boI .lss t107_32 t112_46) (fun t113_46 w =>
  pk t10 t113_46 (.bool false) (fun t114_46 w =>
  s6_p9 K B1 t3 t5 t6 t7 t9 t114_46 t15 t16 t17 w) w) w) w) w) w) ∧
  (gd t10 true (fi Try.prog 30 t110_14 0) (fun t111_36 w =>
  (gd t10 true (ld1 t106_2) (fun t107_33 w =>
  gd t10 true (boI .add t109_33 t111_36) (fun t112_47 w =>
  gd t10 true (boI .lss t107_33 t112_47) (fun t113_47 w =>
  pk t10 t113_47 (.bool false) (fun t114_47 w =>
  s6_p9 K B1 t3 t5 t6 t7 t9 t114_47 t15 t16 t17 w) w) w) w) w) ∧
  (gd t10 true (boI .add t109_33 t111_36) (fun t112_48 w =>
  gd t10 true (ld1 t106_2) (fun t107_34 w =>
  gd t10 true (boI .lss t107_34 t112_48) (fun t113_48 w =>
  pk t10 t113_48 (.bool false) (fun t114_48 w =>
  s6_p9 K B1 t3 t5 t6 t7 t9 t114_48 t15 t16 t17 w) w) w) w) w)) w)) w) ∧
  (gd t10 true (fi Try.prog 30 t110_14 0) (fun t111_37 w =>
  (gd t10 true (ld1 t106_2) (fun t107_35 w =>
  gd t10 true (ld1 t108_10) (fun t109_34 w =>
  gd t10 true (boI .add t109_34 t111_37) (fun t112_49 w =>
  gd t10 true (boI .lss t107_35 t112_49) (fun t113_49 w =>
  pk t10 t113_49 (.bool false) (fun t114_49 w =>
  s6_p9 K B1 t3 t5 t6 t7 t9 t114_49 t15 t16 t17 w) w) w) w) w) w) ∧
  (gd t10 true (ld1 t108_10) (fun t109_35 w =>
  (gd t10 true (ld1 t106_2) (fun t107_36 w =>
  gd t10 true (boI .add t109_35 t111_37) (fun t112_50 w =>
  gd t10 true (boI .lss t107_36 t112_50) (fun t113_50 w =>
  pk t10 t113_50 (.bool false) (fun t114_50 w =>
  s6_p9 K B1 t3 t5 t6 t7 t9 t114_50 t15 t16 t17 w) w) w) w) w) ∧
  (gd t10 true (boI .add t109_35 t111_37) (fun t112_51 w =>
  gd t10 true (ld1 t106_2) (fun t107_37 w =>
  gd t10 true (boI .lss t107_37 t112_51) (fun t113_51 w =>
  pk t10 t113_51 (.bool false) (fun t114_51 w =>
  s6_p9 K B1 t3 t5 t6 t7 t9 t114_51 t15 t16 t17 w) w) w) w) w)) w)) w)) w)) w) ∧
  (gd t10 true (ld1 t108_10) (fun t109_36 w =>
  (gd t10 true (fd 2 t5) (fun t106_3 w =>
  (gd t10 true (ld1 t106_3) (fun t107_38 w =>
  gd t10 true (cl Try.prog 16 #[]) (fun t110_15 w =>
  gd t10 true (fi Try.prog 30 t110_15 0) (fun t111_38 w =>
  gd t10 true (boI .add t109_36 t111_38) (fun t112_52 w =>
  gd t10 true (boI .lss t107_38 t112_52) (fun t113_52 w =>
  pk t10 t113_52 (.bool false) (fun t114_52 w =>
  s6_p9 K B1 t3 t5 t6 t7 t9 t114_52 t15 t16 t17 w) w) w) w) w) w) w) ∧
  (gd t10 true (cl Try.prog 16 #[]) (fun t110_16 w =>
  (gd t10 true (ld1 t106_3) (fun t107_39 w =>
  gd t10 true (fi Try.prog 30 t110_16 0) (fun t111_39 w =>
  gd t10 true (boI .add t109_36 t111_39) (fun t112_53 w =>
  gd t10 true (boI .lss t107_39 t112_53) (fun t113_53 w =>
  pk t10 t113_53 (.bool false) (fun t114_53 w =>
  s6_p9 K B1 t3 t5 t6 t7 t9 t114_53 t15 t16 t17 w) w) w) w) w) w) ∧
  (gd t10 true (fi Try.prog 30 t110_16 0) (fun t111_40 w =>
  (gd t10 true (ld1 t106_3) (fun t107_40 w =>
  gd t10 true (boI .add t109_36 t111_40) (fun t112_54 w =>
  gd t10 true (boI .lss t107_40 t112_54) (fun t113_54 w =>
  pk t10 t113_54 (.bool false) (fun t114_54 w =>
  s6_p9 K B1 t3 t5 t6 t7 t9 t114_54 t15 t16 t17 w) w) w) w) w) ∧
  (gd t10 true (boI .add t109_36 t111_40) (fun t112_55 w =>
  gd t10 true (ld1 t106_3) (fun t107_41 w =>
  gd t10 true (boI .lss t107_41 t112_55) (fun t113_55 w =>
  pk t10 t113_55 (.bool false) (fun t114_55 w =>
  s6_p9 K B1 t3 t5 t6 t7 t9 t114_55 t15 t16 t17 w) w) w) w) w)) w)) w)) w) ∧
  (gd t10 true (cl Try.prog 16 #[]) (fun t110_17 w =>
  (gd t10 true (fd 2 t5) (fun t106_4 w =>
  (gd t10 true (ld1 t106_4) (fun t107_42 w =>
  gd t10 true (fi Try.prog 30 t110_17 0) (fun t111_41 w =>
  gd t10 true (boI .add t109_36 t111_41) (fun t112_56 w =>
  gd t10 true (boI .lss t107_42 t112_56) (fun t113_56 w =>
  pk t10 t113_56 (.bool false) (fun t114_56 w =>
  s6_p9 K B1 t3 t5 t6 t7 t9 t114_56 t15 t16 t17 w) w) w) w) w) w) ∧
  (gd t10 true (fi Try.prog 30 t110_17 0) (fun t111_42 w =>
  (gd t10 true (ld1 t106_4) (fun t107_43 w =>
  gd t10 true (boI .add t109_36 t111_42) (fun t112_57 w =>
  gd t10 true (boI .lss t107_43 t112_57) (fun t113_57 w =>
  pk t10 t113_57 (.bool false) (fun t114_57 w =>
  s6_p9 K B1 t3 t5 t6 t7 t9 t114_57 t15 t16 t17 w) w) w) w) w) ∧
  (gd t10 true (boI .add t109_36 t111_42) (fun t112_58 w =>
  gd t10 true (ld1 t106_4) (fun t107_44 w =>
  gd t10 true (boI .lss t107_44 t112_58) (fun t113_58 w =>
  pk t10 t113_58 (.bool false) (fun t114_58 w =>
  s6_p9 K B1 t3 t5 t6 t7 t9 t114_58 t15 t16 t17 w) w) w) w) w)) w)) w) ∧
  (gd t10 true (fi Try.prog 30 t110_17 0) (fun t111_43 w =>
  (gd t10 true (fd 2 t5) (fun t106_5 w =>
  (gd t10 true (ld1 t106_5) (fun t107_45 w =>
  gd t10 true (boI .add t109_36 t111_43) (fun t112_59 w =>
  gd t10 true (boI .lss t107_45 t112_59) (fun t113_59 w =>
  pk t10 t113_59 (.bool false) (fun t114_59 w =>
  s6_p9 K B1 t3 t5 t6 t7 t9 t114_59 t15 t16 t17 w) w) w) w) w) ∧
  (gd t10 true (boI .add t109_36 t111_43) (fun t112_60 w =>
  gd t10 true (ld1 t106_5) (fun t107_46 w =>
  gd t10 true (boI .lss t107_46 t112_60) (fun t113_60 w =>
  pk t10 t113_60 (.bool false) (fun t114_60 w =>
  s6_p9 K B1 t3 t5 t6 t7 t9 t114_60 t15 t16 t17 w) w) w) w) w)) w) ∧
  (gd t10 true (boI .add t109_36 t111_43) (fun t112_61 w =>
  gd t10 true (fd 2 t5) (fun t106_6 w =>
  gd t10 true (ld1 t106_6) (fun t107_47 w =>
  gd t10 true (boI .lss t107_47 t112_61) (fun t113_61 w =>
  pk t10 t113_61 (.bool false) (fun t114_61 w =>
  s6_p9 K B1 t3 t5 t6 t7 t9 t114_61 t15 t16 t17 w) w) w) w) w) w)) w)) w)) w) ∧
  (gd t10 true (cl Try.prog 16 #[]) (fun t110_18 w =>
  (gd t10 true (fd 2 t5) (fun t106_7 w =>
  (gd t10 true (ld1 t106_7) (fun t107_48 w =>
  (gd t10 true (ld1 t108_10) (fun t109_37 w =>
  gd t10 true (fi Try.prog 30 t110_18 0) (fun t111_44 w =>
  gd t10 true (boI .add t109_37 t111_44) (fun t112_62 w =>
  gd t10 true (boI .lss t107_48 t112_62) (fun t113_62 w =>
  pk t10 t113_62 (.bool false) (fun t114_62 w =>
  s6_p9 K B1 t3 t5 t6 t7 t9 t114_62 t15 t16 t17 w) w) w) w) w) w) ∧
  (gd t10 true (fi Try.prog 30 t110_18 0) (fun t111_45 w =>
  gd t10 true (ld1 t108_10) (fun t109_38 w =>
  gd t10 true (boI .add t109_38 t111_45) (fun t112_63 w =>
  gd t10 true (boI .lss t107_48 t112_63) (fun t113_63 w =>
  pk t10 t113_63 (.bool false) (fun t114_63 w =>
  s6_p9 K B1 t3 t5 t6 t7 t9 t114_63 t15 t16 t17 w) w) w) w) w) w)) w) ∧
  (gd t10 true (ld1 t108_10) (fun t109_39 w =>
  (gd t10 true (ld1 t106_7) (fun t107_49 w =>
  gd t10 true (fi Try.prog 30 t110_18 0) (fun t111_46 w =>
  gd t10 true (boI .add t109_39 t111_46) (fun t112_64 w =>
  gd t10 true (boI .lss t107_49 t112_64) (fun t113_64 w =>
  pk t10 t113_64 (.bool false) (fun t114_64 w =>
  s6_p9 K B1 t3 t5 t6 t7 t9 t114_64 t15 t16 t17 w) w) w) w) w) w) ∧
  (gd t10 true (fi Try.prog 30 t110_18 0) (fun t111_47 w =>
  (gd t10 true (ld1 t106_7) (fun t107_50 w =>
  gd t10 true (boI .add t109_39 t111_47) (fun t112_65 w =>
  gd t10 true (boI .lss t107_50 t112_65) (fun t113_65 w =>
  pk t10 t113_65 (.bool false) (fun t114_65 w =>
  s6_p9 K B1 t3 t5 t6 t7 t9 t114_65 t15 t16 t17 w) w) w) w) w) ∧
  (gd t10 true (boI .add t109_39 t111_47) (fun t112_66 w =>
  gd t10 true (ld1 t106_7) (fun t107_51 w =>
  gd t10 true (boI .lss t107_51 t112_66) (fun t113_66 w =>
  pk t10 t113_66 (.bool false) (fun t114_66 w =>
  s6_p9 K B1 t3 t5 t6 t7 t9 t114_66 t15 t16 t17 w) w) w) w) w)) w)) w) ∧
  (gd t10 true (fi Try.prog 30 t110_18 0) (fun t111_48 w =>
  (gd t10 true (ld1 t106_7) (fun t107_52 w =>
  gd t10 true (ld1 t108_10) (fun t109_40 w =>
  gd t10 true (boI .add t109_40 t111_48) (fun t112_67 w =>
  gd t10 true (boI .lss t107_52 t112_67) (fun t113_67 w =>
  pk t10 t113_67 (.bool false) (fun t114_67 w =>
  s6_p9 K B1 t3 t5 t6 t7 t9 t114_67 t15 t16 t17 w) w) w) w) w) w) ∧
  (gd t10 true (ld1 t108_10) (fun t109_41 w =>
  (gd t10 true (ld1 t106_7) (fun t107_53 w =>
  gd t10 true (boI .add t109_41 t111_48) (fun t112_68 w =>
  gd t10 true (boI .lss t107_53 t112_68) (fun t113_68 w =>
  pk t10 t113_68 (.bool false) (fun t114_68 w =>
  s6_p9 K B1 t3 t5 t6 t7 t9 t114_68 t15 t16 t17 w) w) w) w) w) ∧
  (gd t10 true (boI .add t109_41 t111_48) (fun t112_69 w =>
  gd t10 true (ld1 t106_7) (fun t107_54 w =>
  gd t10 true (boI .lss t107_54 t112_69) (fun t113_69 w =>
  pk t10 t113_69 (.bool false) (fun t114_69 w =>
  s6_p9 K B1 t3 t5 t6 t7 t9 t114_69 t15 t16 t17 w) w) w) w) w)) w)) w)) w) ∧
  (gd t10 true (ld1 t108_10) (fun t109_42 w =>
  (gd t10 true (fd 2 t5) (fun t106_8 w =>
  (gd t10 true (ld1 t106_8) (fun t107_55 w =>
  gd t10 true (fi Try.prog 30 t110_18 0) (fun t111_49 w =>
  gd t10 true (boI .add t109_42 t111_49) (fun t112_70 w =>
  gd t10 true (boI .lss t107_55 t112_70) (fun t113_70 w =>
  pk t10 t113_70 (.bool false) (fun t114_70 w =>
  s6_p9 K B1 t3 t5 t6 t7 t9 t114_70 t15 t16 t17 w) w) w) w) w) w) ∧
  (gd t10 true (fi Try.prog 30 t110_18 0) (fun t111_50 w =>
  (gd t10 true (ld1 t106_8) (fun t107_56 w =>
  gd t10 true (boI .add t109_42 t111_50) (fun t112_71 w =>
  gd t10 true (boI .lss t107_56 t112_71) (fun t113_71 w =>
  pk t10 t113_71 (.bool false) (fun t114_71 w =>
  s6_p9 K B1 t3 t5 t6 t7 t9 t114_71 t15 t16 t17 w) w) w) w) w) ∧
  (gd t10 true (boI .add t109_42 t111_50) (fun t112_72 w =>
  gd t10 true (ld1 t106_8) (fun t107_57 w =>
  gd t10 true (boI .lss t107_57 t112_72) (fun t113_72 w =>
  pk t10 t113_72 (.bool false) (fun t114_72 w =>
  s6_p9 K B1 t3 t5 t6 t7 t9 t114_72 t15 t16 t17 w) w) w) w) w)) w)) w) ∧
  (gd t10 true (fi Try.prog 30 t110_18 0) (fun t111_51 w =>
  (gd t10 true (fd 2 t5) (fun t106_9 w =>
  (gd t10 true (ld1 t106_9) (fun t107_58 w =>
  gd t10 true (boI .add t109_42 t111_51) (fun t112_73 w =>
  gd t10 true (boI .lss t107_58 t112_73) (fun t113_73 w =>
  pk t10 t113_73 (.bool false) (fun t114_73 w =>
  s6_p9 K B1 t3 t5 t6 t7 t9 t114_73 t15 t16 t17 w) w) w) w) w) ∧
  (gd t10 true (boI .add t109_42 t111_51) (fun t112_74 w =>
  gd t10 true (ld1 t106_9) (fun t107_59 w =>
  gd t10 true (boI .lss t107_59 t112_74) (fun t113_74 w =>
  pk t10 t113_74 (.bool false) (fun t114_74 w =>
  s6_p9 K B1 t3 t5 t6 t7 t9 t114_74 t15 t16 t17 w) w) w) w) w)) w) ∧
  (gd t10 true (boI .add t109_42 t111_51) (fun t112_75 w =>
  gd t10 true (fd 2 t5) (fun t106_10 w =>
  gd t10 true (ld1 t106_10) (fun t107_60 w =>
  gd t10 true (boI .lss t107_60 t112_75) (fun t113_75 w =>
  pk t10 t113_75 (.bool false) (fun t114_75 w =>
  s6_p9 K B1 t3 t5 t6 t7 t9 t114_75 t15 t16 t17 w) w) w) w) w) w)) w)) w) ∧
  (gd t10 true (fi Try.prog 30 t110_18 0) (fun t111_52 w =>
  (gd t10 true (fd 2 t5) (fun t106_11 w =>
  (gd t10 true (ld1 t106_11) (fun t107_61 w =>
  gd t10 true (ld1 t108_10) (fun t109_43 w =>
  gd t10 true (boI .add t109_43 t111_52) (fun t112_76 w =>
  gd t10 true (boI .lss t107_61 t112_76) (fun t113_76 w =>
  pk t10 t113_76 (.bool false) (fun t114_76 w =>
  s6_p9 K B1 t3 t5 t6 t7 t9 t114_76 t15 t16 t17 w) w) w) w) w) w) ∧
  (gd t10 true (ld1 t108_10) (fun t109_44 w =>
  (gd t10 true (ld1 t106_11) (fun t107_62 w =>
  gd t10 true (boI .add t109_44 t111_52) (fun t112_77 w =>
  gd t10 true (boI .lss t107_62 t112_77) (fun t113_77 w =>
  pk t10 t113_77 (.bool false) (fun t114_77 w =>
  s6_p9 K B1 t3 t5 t6 t7 t9 t114_77 t15 t16 t17 w) w) w) w) w) ∧
  (gd t10 true (boI .add t109_44 t111_52) (fun t112_78 w =>
  gd t10 true (ld1 t106_11) (fun t107_63 w =>
  gd t10 true (boI .lss t107_63 t112_78) (fun t113_78 w =>
  pk t10 t113_78 (.bool false) (fun t114_78 w =>
  s6_p9 K B1 t3 t5 t6 t7 t9 t114_78 t15 t16 t17 w) w) w) w) w)) w)) w) ∧
  (gd t10 true (ld1 t108_10) (fun t109_45 w =>
  (gd t10 true (fd 2 t5) (fun t106_12 w =>
  (gd t10 true (ld1 t106_12) (fun t107_64 w =>
  gd t10 true (boI .add t109_45 t111_52) (fun t112_79 w =>
  gd t10 true (boI .lss t107_64 t112_79) (fun t113_79 w =>
  pk t10 t113_79 (.bool false) (fun t114_79 w =>
  s6_p9 K B1 t3 t5 t6 t7 t9 t114_79 t15 t16 t17 w) w) w) w) w) ∧
  (gd t10 true (boI .add t109_45 t111_52) (fun t112_80 w =>
  gd t10 true (ld1 t106_12) (fun t107_65 w =>
  gd t10 true (boI .lss t107_65 t112_80) (fun t113_80 w =>
  pk t10 t113_80 (.bool false) (fun t114_80 w =>
  s6_p9 K B1 t3 t5 t6 t7 t9 t114_80 t15 t16 t17 w) w) w) w) w)) w) ∧
  (gd t10 true (boI .add t109_45 t111_52) (fun t112_81 w =>
  gd t10 true (fd 2 t5) (fun t106_13 w =>
  gd t10 true (ld1 t106_13) (fun t107_66 w =>
  gd t10 true (boI .lss t107_66 t112_81) (fun t113_81 w =>
  pk t10 t113_81 (.bool false) (fun t114_81 w =>
  s6_p9 K B1 t3 t5 t6 t7 t9 t114_81 t15 t16 t17 w) w) w) w) w) w)) w)) w)) w)) w) ∧
  (gd t10 true (cl Try.prog 16 #[]) (fun t110_19 w =>
  (gd t10 true (fd 2 t5) (fun t106_14 w =>
  (gd t10 true (ld1 t106_14) (fun t107_67 w =>
  (gd t10 true (fd 1 t6) (fun t108_11 w =>
  (gd t10 true (ld1 t108_11) (fun t109_46 w =>
  gd t10 true (fi Try.prog 30 t110_19 0) (fun t111_53 w =>
  gd t10 true (boI .add t109_46 t111_53) (fun t112_82 w =>
  gd t10 true (boI .lss t107_67 t112_82) (fun t113_82 w =>
  pk t10 t113_82 (.bool false) (fun t114_82 w =>
  s6_p9 K B1 t3 t5 t6 t7 t9 t114_82 t15 t16 t17 w) w) w) w) w) w) ∧
  (gd t10 true (fi Try.prog 30 t110_19 0) (fun t111_54 w =>
  gd t10 true (ld1 t108_11) (fun t109_47 w =>
  gd t10 true (boI .add t109_47 t111_54) (fun t112_83 w =>
  gd t10 true (boI .lss t107_67 t112_83) (fun t113_83 w =>
  pk t10 t113_83 (.bool false) (fun t114_83 w =>
  s6_p9 K B1 t3 t5 t6 t7 t9 t114_83 t15 t16 t17 w) w) w) w) w) w)) w) ∧
  (gd t10 true (fi Try.prog 30 t110_19 0) (fun t111_55 w =>
  gd t10 true (fd 1 t6) (fun t108_12 w =>
  gd t10 true (ld1 t108_12) (fun t109_48 w =>
  gd t10 true (boI .add t109_48 t111_55) (fun t112_84 w =>
  gd t10 true (boI .lss t107_67 t112_84) (fun t113_84 w =>
  pk t10 t113_84 (.bool false) (fun t114_84 w =>
  s6_p9 K B1 t3 t5 t6 t7 t9 t114_84 t15 t16 t17 w) w) w) w) w) w) w)) w) ∧
  (gd t10 true (fd 1 t6) (fun t108_13 w =>
  (gd t10 true (ld1 t106_14) (fun t107_68 w =>
  (gd t10 true (ld1 t108_13) (fun t109_49 w =>
  gd t10 true (fi Try.prog 30 t110_19 0) (fun t111_56 w =>
  gd t10 true (boI .add t109_49 t111_56) (fun t112_85 w =>
  gd t10 true (boI .lss t107_68 t112_85) (fun t113_85 w =>
  pk t10 t113_85 (.bool false) (fun t114_85 w =>
  s6_p9 K B1 t3 t5 t6 t7 t9 t114_85 t15 t16 t17 w) w) w) w) w) w) ∧
  (gd t10 true (fi Try.prog 30 t110_19 0) (fun t111_57 w =>
  gd t10 true (ld1 t108_13) (fun t109_50 w =>
  gd t10 true (boI .add t109_50 t111_57) (fun t112_86 w =>
  gd t10 true (boI .lss t107_68 t112_86) (fun t113_86 w =>
  pk t10 t113_86 (.bool false) (fun t114_86 w =>
  s6_p9 K B1 t3 t5 t6 t7 t9 t114_86 t15 t16 t17 w) w) w) w) w) w)) w) ∧
  (gd t10 true (ld1 t108_13) (fun t109_51 w =>
  (gd t10 true (ld1 t106_14) (fun t107_69 w =>
  gd t10 true (fi Try.prog 30 t110_19 0) (fun t111_58 w =>
  gd t10 true (boI .add t109_51 t111_58) (fun t112_87 w =>
  gd t10 true (boI .lss t107_69 t112_87) (fun t113_87 w =>
  pk t10 t113_87 (.bool false) (fun t114_87 w =>
  s6_p9 K B1 t3 t5 t6 t7 t9 t114_87 t15 t16 t17 w) w) w) w) w) w) ∧
  (gd t10 true (fi Try.prog 30 t110_19 0) (fun t111_59 w =>
  (gd t10 true (ld1 t106_14) (fun t107_70 w =>
  gd t10 true (boI .add t109_51 t111_59) (fun t112_88 w =>
  gd t10 true (boI .lss t107_70 t112_88) (fun t113_88 w =>
  pk t10 t113_88 (.bool false) (fun t114_88 w =>
  s6_p9 K B1 t3 t5 t6 t7 t9 t114_88 t15 t16 t17 w) w) w) w) w) ∧
  (gd t10 true (boI .add t109_51 t111_59) (fun t112_89 w =>
  gd t10 true (ld1 t106_14) (fun t107_71 w =>
  gd t10 true (boI .lss t107_71 t112_89) (fun t113_89 w =>
  pk t10 t113_89 (.bool false) (fun t114_89 w =>
  s6_p9 K B1 t3 t5 t6 t7 t9 t114_89 t15 t16 t17 w) w) w) w) w)) w)) w) ∧
  (gd t10 true (fi Try.prog 30 t110_19 0) (fun t111_60 w =>
  (gd t10 true (ld1 t106_14) (fun t107_72 w =>
  gd t10 true (ld1 t108_13) (fun t109_52 w =>
  gd t10 true (boI .add t109_52 t111_60) (fun t112_90 w =>
  gd t10 true (boI .lss t107_72 t112_90) (fun t113_90 w =>
  pk t10 t113_90 (.bool false) (fun t114_90 w =>
  s6_p9 K B1 t3 t5 t6 t7 t9 t114_90 t15 t16 t17 w) w) w) w) w) w) ∧
  (gd t10 true (ld1 t108_13) (fun t109_53 w =>
  (gd t10 true (ld1 t106_14) (fun t107_73 w =>
  gd t10 true (boI .add t109_53 t111_60) (fun t112_91 w =>
  gd t10 true (boI .lss t107_73 t112_91) (fun t113_91 w =>
  pk t10 t113_91 (.bool false) (fun t114_91 w =>
  s6_p9 K B1 t3 t5 t6 t7 t9 t114_91 t15 t16 t17 w) w) w) w) w) ∧
  (gd t10 true (boI .add t109_53 t111_60) (fun t112_92 w =>
  gd t10 true (ld1 t106_14) (fun t107_74 w =>
  gd t10 true (boI .lss t107_74 t112_92) (fun t113_92 w =>
  pk t10 t113_92 (.bool false) (fun t114_92 w =>
  s6_p9 K B1 t3 t5 t6 t7 t9 t114_92 t15 t16 t17 w) w) w) w) w)) w)) w)) w) ∧
  (gd t10 true (fi Try.prog 30 t110_19 0) (fun t111_61 w =>
  (gd t10 true (ld1 t106_14) (fun t107_75 w =>
  gd t10 true (fd 1 t6) (fun t108_14 w =>
  gd t10 true (ld1 t108_14) (fun t109_54 w =>
  gd t10 true (boI .add t109_54 t111_61) (fun t112_93 w =>
  gd t10 true (boI .lss t107_75 t112_93) (fun t113_93 w =>
  pk t10 t113_93 (.bool false) (fun t114_93 w =>
  s6_p9 K B1 t3 t5 t6 t7 t9 t114_93 t15 t16 t17 w) w) w) w) w) w) w) ∧
  (gd t10 true (fd 1 t6) (fun t108_15 w =>
  (gd t10 true (ld1 t106_14) (fun t107_76 w =>
  gd t10 true (ld1 t108_15) (fun t109_55 w =>
  gd t10 true (boI .add t109_55 t111_61) (fun t112_94 w =>
  gd t10 true (boI .lss t107_76 t112_94) (fun t113_94 w =>
  pk t10 t113_94 (.bool false) (fun t114_94 w =>
  s6_p9 K B1 t3 t5 t6 t7 t9 t114_94 t15 t16 t17 w) w) w) w) w) w) ∧
  (gd t10 true (ld1 t108_15) (fun t109_56 w =>
  (gd t10 true (ld1 t106_14) (fun t107_77 w =>
  gd t10 true (boI .add t109_56 t111_61) (fun t112_95 w =>
  gd t10 true (boI .lss t107_77 t112_95) (fun t113_95 w =>
  pk t10 t113_95 (.bool false) (fun t114_95 w =>
  s6_p9 K B1 t3 t5 t6 t7 t9 t114_95 t15 t16 t17 w) w) w) w) w) ∧
  (gd t10 true (boI .add t109_56 t111_61) (fun t112_96 w =>
  gd t10 true (ld1 t106_14) (fun t107_78 w =>
  gd t10 true (boI .lss t107_78 t112_96) (fun t113_96 w =>
  pk t10 t113_96 (.bool false) (fun t114_96 w =>
  s6_p9 K B1 t3 t5 t6 t7 t9 t114_96 t15 t16 t17 w) w) w) w) w)) w)) w)) w)) w) ∧
  (gd t10 true (fd 1 t6) (fun t108_16 w =>
  (gd t10 true (fd 2 t5) (fun t106_15 w =>
  (gd t10 true (ld1 t106_15) (fun t107_79 w =>
  (gd t10 true (ld1 t108_16) (fun t109_57 w =>
  gd t10 true (fi Try.prog 30 t110_19 0) (fun t111_62 w =>
  gd t10 true (boI .add t109_57 t111_62) (fun t112_97 w =>
  gd t10 true (boI .lss t107_79 t112_97) (fun t113_97 w =>
  pk t10 t113_97 (.bool false) (fun t114_97 w =>
  s6_p9 K B1 t3 t5 t6 t7 t9 t114_97 t15 t16 t17 w) w) w) w) w) w) ∧
  (gd t10 true (fi Try.prog 30 t110_19 0) (fun t111_63 w =>
  gd t10 true (ld1 t108_16) (fun t109_58 w =>
  gd t10 true (boI .add t109_58 t111_63) (fun t112_98 w =>
  gd t10 true (boI .lss t107_79 t112_98) (fun t113_98 w =>
  pk t10 t113_98 (.bool false) (fun t114_98 w =>
  s6_p9 K B1 t3 t5 t6 t7 t9 t114_98 t15 t16 t17 w) w) w) w) w) w)) w) ∧
  (gd t10 true (ld1 t108_16) (fun t109_59 w =>
  (gd t10 true (ld1 t106_15) (fun t107_80 w =>
  gd t10 true (fi Try.prog 30 t110_19 0) (fun t111_64 w =>
  gd t10 true (boI .add t109_59 t111_64) (fun t112_99 w =>
  gd t10 true (boI .lss t107_80 t112_99) (fun t113_99 w =>
  pk t10 t113_99 (.bool false) (fun t114_99 w =>
  s6_p9 K B1 t3 t5 t6 t7 t9 t114_99 t15 t16 t17 w) w) w) w) w) w) ∧
  (gd t10 true (fi Try.prog 30 t110_19 0) (fun t111_65 w =>
  (gd t10 true (ld1 t106_15) (fun t107_81 w =>
  gd t10 true (boI .add t109_59 t111_65) (fun t112_100 w =>
  gd t10 true (boI .lss t107_81 t112_100) (fun t113_100 w =>
  pk t10 t113_100 (.bool false) (fun t114_100 w =>
  s6_p9 K B1 t3 t5 t6 t7 t9 t114_100 t15 t16 t17 w) w) w) w) w) ∧
  (gd t10 true (boI .add t109_59 t111_65) (fun t112_101 w =>
  gd t10 true (ld1 t106_15) (fun t107_82 w =>
  gd t10 true (boI .lss t107_82 t112_101) (fun t113_101 w =>
  pk t10 t113_101 (.bool false) (fun t114_101 w =>
  s6_p9 K B1 t3 t5 t6 t7 t9 t114_101 t15 t16 t17 w) w) w) w) w)) w)) w) ∧
  (gd t10 true (fi Try.prog 30 t110_19 0) (fun t111_66 w =>
  (gd t10 true (ld1 t106_15) (fun t107_83 w =>
  gd t10 true (ld1 t108_16) (fun t109_60 w =>
  gd t10 true (boI .add t109_60 t111_66) (fun t112_102 w =>
  gd t10 true (boI .lss t107_83 t112_102) (fun t113_102 w =>
  pk t10 t113_102 (.bool false) (fun t114_102 w =>
  s6_p9 K B1 t3 t5 t6 t7 t9 t114_102 t15 t16 t17 w) w) w) w) w) w) ∧
  (gd t10 true (ld1 t108_16) (fun t109_61 w =>
  (gd t10 true (ld1 t106_15) (fun t107_84 w =>
  gd t10 true (boI .add t109_61 t111_66) (fun t112_103 w =>
  gd t10 true (boI .lss t107_84 t112_103) (fun t113_103 w =>
  pk t10 t113_103 (.bool false) (fun t114_103 w =>
  s6_p9 K B1 t3 t5 t6 t7 t9 t114_103 t15 t16 t17 w) w) w) w) w) ∧
  (gd t10 true (boI .add t109_61 t111_66) (fun t112_104 w =>
  gd t10 true (ld1 t106_15) (fun t107_85 w =>
  gd t10 true (boI .lss t107_85 t112_104) (fun t113_104 w =>
  pk t10 t113_104 (.bool false) (fun t114_104 w =>
  s6_p9 K B1 t3 t5 t6 t7 t9 t114_104 t15 t16 t17 w) w) w) w) w)) w)) w)) w) ∧
  (gd t10 true (ld1 t108_16) (fun t109_62 w =>
  (gd t10 true (fd 2 t5) (fun t106_16 w =>
  (gd t10 true (ld1 t106_16) (fun t107_86 w =>
  gd t10 true (fi Try.prog 30 t110_19 0) (fun t111_67 w =>
  gd t10 true (boI .add t109_62 t111_67) (fun t112_105 w =>
  gd t10 true (boI .lss t107_86 t112_105) (fun t113_105 w =>
  pk t10 t113_105 (.bool false) (fun t114_105 w =>
  s6_p9 K B1 t3 t5 t6 t7 t9 t114_105 t15 t16 t17 w) w) w) w) w) w) ∧
  (gd t10 true (fi Try.prog 30 t110_19 0) (fun t111_68 w =>
  (gd t10 true (ld1 t106_16) (fun t107_87 w =>
  gd t10 true (boI .add t109_62 t111_68) (fun t112_106 w =>
  gd t10 true (boI .lss t107_87 t112_106) (fun t113_106 w =>
  pk t10 t113_106 (.bool false) (fun t114_106 w =>
  s6_p9 K B1 t3 t5 t6 t7 t9 t114_106 t15 t16 t17 w) w) w) w) w) ∧
  (gd t10 true (boI .add t109_62 t111_68) (fun t112_107 w =>
  gd t10 true (ld1 t106_16) (fun t107_88 w =>
  gd t10 true (boI .lss t107_88 t112_107) (fun t113_107 w =>
  pk t10 t113_107 (.bool false) (fun t114_107 w =>
  s6_p9 K B1 t3 t5 t6 t7 t9 t114_107 t15 t16 t17 w) w) w) w) w)) w)) w) ∧
  (gd t10 true (fi Try.prog 30 t110_19 0) (fun t111_69 w =>
  (gd t10 true (fd 2 t5) (fun t106_17 w =>
  (gd t10 true (ld1 t106_17) (fun t107_89 w =>
  gd t10 true (boI .add t109_62 t111_69) (fun t112_108 w =>
  gd t10 true (boI .lss t107_89 t112_108) (fun t113_108 w =>
  pk t10 t113_108 (.bool false) (fun t114_108 w =>
  s6_p9 K B1 t3 t5 t6 t7 t9 t114_108 t15 t16 t17 w) w) w) w) w) ∧
  (gd t10 true (boI .add t109_62 t111_69) (fun t112_109 w =>
  gd t10 true (ld1 t106_17) (fun t107_90 w =>
  gd t10 true (boI .lss t107_90 t112_109) (fun t113_109 w =>
  pk t10 t113_109 (.bool false) (fun t114_109 w =>
  s6_p9 K B1 t3 t5 t6 t7 t9 t114_109 t15 t16 t17 w) w) w) w) w)) w) ∧
  (gd t10 true (boI .add t109_62 t111_69) (fun t112_110 w =>
  gd t10 true (fd 2 t5) (fun t106_18 w =>
  gd t10 true (ld1 t106_18) (fun t107_91 w =>
  gd t10 true (boI .lss t107_91 t112_110) (fun t113_110 w =>
  pk t10 t113_110 (.bool false) (fun t114_110 w =>
  s6_p9 K B1 t3 t5 t6 t7 t9 t114_110 t15 t16 t17 w) w) w) w) w) w)) w)) w) ∧
  (gd t10 true (fi Try.prog 30 t110_19 0) (fun t111_70 w =>
  (gd t10 true (fd 2 t5) (fun t106_19 w =>
  (gd t10 true (ld1 t106_19) (fun t107_92 w =>
  gd t10 true (ld1 t108_16) (fun t109_63 w =>
  gd t10 true (boI .add t109_63 t111_70) (fun t112_111 w =>
  gd t10 true (boI .lss t107_92 t112_111) (fun t113_111 w =>
  pk t10 t113_111 (.bool false) (fun t114_111 w =>
  s6_p9 K B1 t3 t5 t6 t7 t9 t114_111 t15 t16 t17 w) w) w) w) w) w) ∧
  (gd t10 true (ld1 t108_16) (fun t109_64 w =>
  (gd t10 true (ld1 t106_19) (fun t107_93 w =>
  gd t10 true (boI .add t109_64 t111_70) (fun t112_112 w =>
  gd t10 true (boI .lss t107_93 t112_112) (fun t113_112 w =>
  pk t10 t113_112 (.bool false) (fun t114_112 w =>
  s6_p9 K B1 t3 t5 t6 t7 t9 t114_112 t15 t16 t17 w) w) w) w) w) ∧
  (gd t10 true (boI .add t109_64 t111_70) (fun t112_113 w =>
  gd t10 true (ld1 t106_19) (fun t107_94 w =>
  gd t10 true (boI .lss t107_94 t112_113) (fun t113_113 w =>
  pk t10 t113_113 (.bool false) (fun t114_113 w =>
  s6_p9 K B1 t3 t5 t6 t7 t9 t114_113 t15 t16 t17 w) w) w) w) w)) w)) w) ∧
  (gd t10 true (ld1 t108_16) (fun t109_65 w =>
  (gd t10 true (fd 2 t5) (fun t106_20 w =>
  (gd t10 true (ld1 t106_20) (fun t107_95 w =>
  gd t10 true (boI .add t109_65 t111_70) (fun t112_114 w =>
  gd t10 true (boI .lss t107_95 t112_114) (fun t113_114 w =>
  pk t10 t113_114 (.bool false) (fun t114_114 w =>
  s6_p9 K B1 t3 t5 t6 t7 t9 t114_114 t15 t16 t17 w) w) w) w) w) ∧
  (gd t10 true (boI .add t109_65 t111_70) (fun t112_115 w =>
  gd t10 true (ld1 t106_20) (fun t107_96 w =>
  gd t10 true (boI .lss t107_96 t112_115) (fun t113_115 w =>
  pk t10 t113_115 (.bool false) (fun t114_115 w =>
  s6_p9 K B1 t3 t5 t6 t7 t9 t114_115 t15 t16 t17 w) w) w) w) w)) w) ∧
  (gd t10 true (boI .add t109_65 t111_70) (fun t112_116 w =>
  gd t10 true (fd 2 t5) (fun t106_21 w =>
  gd t10 true (ld1 t106_21) (fun t107_97 w =>
  gd t10 true (boI .lss t107_97 t112_116) (fun t113_116 w =>
  pk t10 t113_116 (.bool false) (fun t114_116 w =>
  s6_p9 K B1 t3 t5 t6 t7 t9 t114_116 t15 t16 t17 w) w) w) w) w) w)) w)) w)) w) ∧
  (gd t10 true (fi Try.prog 30 t110_19 0) (fun t111_71 w =>
  (gd t10 true (fd 2 t5) (fun t106_22 w =>
  (gd t10 true (ld1 t106_22) (fun t107_98 w =>
  gd t10 true (fd 1 t6) (fun t108_17 w =>
  gd t10 true (ld1 t108_17) (fun t109_66 w =>
  gd t10 true (boI .add t109_66 t111_71) (fun t112_117 w =>
  gd t10 true (boI .lss t107_98 t112_117) (fun t113_117 w =>
  pk t10 t113_117 (.bool false) (fun t114_117 w =>
  s6_p9 K B1 t3 t5 t6 t7 t9 t114_117 t15 t16 t17 w) w) w) w) w) w) w) ∧
  (gd t10 true (fd 1 t6) (fun t108_18 w =>
  (gd t10 true (ld1 t106_22) (fun t107_99 w =>
  gd t10 true (ld1 t108_18) (fun t109_67 w =>
  gd t10 true (boI .add t109_67 t111_71) (fun t112_118 w =>
  gd t10 true (boI .lss t107_99 t112_118) (fun t113_118 w =>
  pk t10 t113_118 (.bool false) (fun t114_118 w =>
  s6_p9 K B1 t3 t5 t6 t7 t9 t114_118 t15 t16 t17 w) w) w) w) w) w) ∧
  (gd t10 true (ld1 t108_18) (fun t109_68 w =>
  (gd t10 true (ld1 t106_22) (fun t107_100 w =>
  gd t10 true (boI .add t109_68 t111_71) (fun t112_119 w =>
  gd t10 true (boI .lss t107_100 t112_119) (fun t113_119 w =>
  pk t10 t113_119 (.bool false) (fun t114_119 w =>
  s6_p9 K B1 t3 t5 t6 t7 t9 t114_119 t15 t16 t17 w) w) w) w) w) ∧
  (gd t10 true (boI .add t109_68 t111_71) (fun t112_120 w =>
  gd t10 true (ld1 t106_22) (fun t107_101 w =>
  gd t10 true (boI .lss t107_101 t112_120) (fun t113_120 w =>
  pk t10 t113_120 (.bool false) (fun t114_120 w =>
  s6_p9 K B1 t3 t5 t6 t7 t9 t114_120 t15 t16 t17 w) w) w) w) w)) w)) w)) w) ∧
  (gd t10 true (fd 1 t6) (fun t108_19 w =>
  (gd t10 true (fd 2 t5) (fun t106_23 w =>
  (gd t10 true (ld1 t106_23) (fun t107_102 w =>
  gd t10 true (ld1 t108_19) (fun t109_69 w =>
  gd t10 true (boI .add t109_69 t111_71) (fun t112_121 w =>
  gd t10 true (boI .lss t107_102 t112_121) (fun t113_121 w =>
  pk t10 t113_121 (.bool false) (fun t114_121 w =>
  s6_p9 K B1 t3 t5 t6 t7 t9 t114_121 t15 t16 t17 w) w) w) w) w) w) ∧
  (gd t10 true (ld1 t108_19) (fun t109_70 w =>
  (gd t10 true (ld1 t106_23) (fun t107_103 w =>
  gd t10 true (boI .add t109_70 t111_71) (fun t112_122 w =>
  gd t10 true (boI .lss t107_103 t112_122) (fun t113_122 w =>
  pk t10 t113_122 (.bool false) (fun t114_122 w =>
  s6_p9 K B1 t3 t5 t6 t7 t9 t114_122 t15 t16 t17 w) w) w) w) w) ∧
  (gd t10 true (boI .add t109_70 t111_71) (fun t112_123 w =>
  gd t10 true (ld1 t106_23) (fun t107_104 w =>
  gd t10 true (boI .lss t107_104 t112_123) (fun t113_123 w =>
  pk t10 t113_123 (.bool false) (fun t114_123 w =>
  s6_p9 K B1 t3 t5 t6 t7 t9 t114_123 t15 t16 t17 w) w) w) w) w)) w)) w) ∧
  (gd t10 true (ld1 t108_19) (fun t109_71 w =>
  (gd t10 true (fd 2 t5) (fun t106_24 w =>
  (gd t10 true (ld1 t106_24) (fun t107_105 w =>
  gd t10 true (boI .add t109_71 t111_71) (fun t112_124 w =>
  gd t10 true (boI .lss t107_105 t112_124) (fun t113_124 w =>
  pk t10 t113_124 (.bool false) (fun t114_124 w =>
  s6_p9 K B1 t3 t5 t6 t7 t9 t114_124 t15 t16 t17 w) w) w) w) w) ∧
  (gd t10 true (boI .add t109_71 t111_71) (fun t112_125 w =>
  gd t10 true (ld1 t106_24) (fun t107_106 w =>
  gd t10 true (boI .lss t107_106 t112_125) (fun t113_125 w =>
  pk t10 t113_125 (.bool false) (fun t114_125 w =>
  s6_p9 K B1 t3 t5 t6 t7 t9 t114_125 t15 t16 t17 w) w) w) w) w)) w) ∧
  (gd t10 true (boI .add t109_71 t111_71) (fun t112_126 w =>
  gd t10 true (fd 2 t5) (fun t106_25 w =>
  gd t10 true (ld1 t106_25) (fun t107_107 w =>
  gd t10 true (boI .lss t107_107 t112_126) (fun t113_126 w =>
  pk t10 t113_126 (.bool false) (fun t114_126 w =>
  s6_p9 K B1 t3 t5 t6 t7 t9 t114_126 t15 t16 t17 w) w) w) w) w) w)) w)) w)) w)) w)
def s6_p10 (K : Value → World → Prop) (B1 : List Value → World → Prop) (t3 t5 t6 t7 t9 t10 t15 t16 t17 : Value) (w : World) : Prop := s6_p10_d K B1 t3 t5 t6 t7 t9 t10 t15 t16 t17 (drw w)
def s6_p10_den (K : Value → World → Prop) (M1 : (Nat → Value) → World → Prop) : (Nat → Value) → World → Prop := denL Try.prog [(cd (Try.f6.body.getD .skip) [1, 1, 1, 0, 1, 0, 0, 1, 1, 0, 0, 1, 1, 1, 1, 1, 1, 0, 1, 0, 1])] (s6_p9_den K M1) (fun i => (bif Nat.beq i 1 then (s6_p2_den K M1) else (bif Nat.beq i 0 then (s6_p1_den K) else (fun _ _ => False)))) (s6_R K)
theorem s6_p10_ok (K : Value → World → Prop) (B1 : List Value → World → Prop) (s : Nat → Value) (w : World) (h : s6_p10 K B1 (s 3) (s 5) (s 6) (s 7) (s 9) (s 10) (s 15) (s 16) (s 17) w) : Tr (s6_p10_den K (fun s w => B1 [s 3, s 15, s 16, s 17] w) s w) :=
  tr_draw (P := Try.prog) (ops := (ro (cd (Try.f6.body.getD .skip) [1, 1, 1, 0, 1, 0, 0, 1, 1, 0, 0, 1, 1, 1, 1, 1, 1, 0, 1, 0, 1]))) (ms := [0, 1, 3, 7, 3, 19, 3, 67, 243, 511, 1023, 2047]) (cs := []) (N := (fun s w => s6_p9 K B1 (s 3) (s 5) (s 6) (s 7) (s 9) (s 10) (s 15) (s 16) (s 17) w)) (N' := (s6_p9_den K (fun s w => B1 [s 3, s 15, s 16, s 17] w))) (s := s) (w := w) (p := s6_p10 K B1 (s 3) (s 5) (s 6) (s 7) (s 9) (s 10) (s 15) (s 16) (s 17) w) (q := s6_p10_den K (fun s w => B1 [s 3, s 15, s 16, s 17] w) s w) (by kernel_rfl) (by kernel_rfl) (fun s w h => s6_p9_ok K B1 s w @h) (by kernel_rfl) (by kernel_rfl) @h
def s6_p11 (K : Value → World → Prop) (B1 : List Value → World → Prop) (t3 t5 t6 t7 t9 t15 t16 t17 : Value) (w : World) : Prop :=
  ldn 4 t6 (fun t96 w =>
  fd 1 t5 (fun t97 w =>
  ld1 t97 (fun t98 w =>
  fd 2 t5 (fun t99 w =>
  ld1 t99 (fun t100 w =>
  cl Try.prog 26 #[t96, t98, t100] (fun t101 w =>
  exq t101 0 (fun t102 w =>
  exq t101 1 (fun t103 w =>
  stn 4 t9 t102 (fun w =>
  s6_p10 K B1 t3 t5 t6 t7 t9 t103 t15 t16 t17 w) w) w) w) w) w) w) w) w) w
def s6_p11_den (K : Value → World → Prop) (M1 : (Nat → Value) → World → Prop) : (Nat → Value) → World → Prop := denL Try.prog [(cd (Try.f6.body.getD .skip) [1, 1, 1, 0, 1, 0, 0, 1, 1, 0, 0, 1, 1, 1, 1, 1, 1, 0, 1, 0, 0])] (s6_p10_den K M1) (fun i => (bif Nat.beq i 1 then (s6_p2_den K M1) else (bif Nat.beq i 0 then (s6_p1_den K) else (fun _ _ => False)))) (s6_R K)
theorem s6_p11_ok (K : Value → World → Prop) (B1 : List Value → World → Prop) (s : Nat → Value) (w : World) (h : s6_p11 K B1 (s 3) (s 5) (s 6) (s 7) (s 9) (s 15) (s 16) (s 17) w) : Tr (s6_p11_den K (fun s w => B1 [s 3, s 15, s 16, s 17] w) s w) :=
  tr_simple (P := Try.prog) (codes := [(cd (Try.f6.body.getD .skip) [1, 1, 1, 0, 1, 0, 0, 1, 1, 0, 0, 1, 1, 1, 1, 1, 1, 0, 1, 0, 0])]) (N := (fun s w => s6_p10 K B1 (s 3) (s 5) (s 6) (s 7) (s 9) (s 10) (s 15) (s 16) (s 17) w)) (N' := (s6_p10_den K (fun s w => B1 [s 3, s 15, s 16, s 17] w))) (X := (fun i => (bif Nat.beq i 1 then (fun s w => s6_p2 K B1 (s 3) (s 15) (s 16) (s 17) w) else (bif Nat.beq i 0 then (fun s w => s6_p1 K w) else (fun _ _ => False))))) (X' := (fun i => (bif Nat.beq i 1 then (s6_p2_den K (fun s w => B1 [s 3, s 15, s 16, s 17] w)) else (bif Nat.beq i 0 then (s6_p1_den K) else (fun _ _ => False))))) (R := s6_R K) (s := s) (w := w) (p := s6_p11 K B1 (s 3) (s 5) (s 6) (s 7) (s 9) (s 15) (s 16) (s 17) w) (q := s6_p11_den K (fun s w => B1 [s 3, s 15, s 16, s 17] w) s w) (fun s w h => s6_p10_ok K B1 s w @h) (fun i => (tr_bif (fun s w h => s6_p2_ok K B1 s w @h) (tr_bif (fun s w h => s6_p1_ok K s w @h) tr_id))) (by kernel_rfl) (by kernel_rfl) @h
def s6_p12 (K : Value → World → Prop) (B1 : List Value → World → Prop) (t3 t5 t6 t7 t9 t10 t15 t16 t17 t94 : Value) (w : World) : Prop :=
  ifb t94
  (s6_p11 K B1 t3 t5 t6 t7 t9 t15 t16 t17 w)
  (s6_p9 K B1 t3 t5 t6 t7 t9 t10 t15 t16 t17 w)
def s6_p12_den (K : Value → World → Prop) (M1 : (Nat → Value) → World → Prop) : (Nat → Value) → World → Prop := fun s w => ifb (ev s (.tmp 94)) ((s6_p11_den K M1) s w) ((s6_p9_den K M1) s w)
theorem s6_p12_ok (K : Value → World → Prop) (B1 : List Value → World → Prop) (s : Nat → Value) (w : World) (h : s6_p12 K B1 (s 3) (s 5) (s 6) (s 7) (s 9) (s 10) (s 15) (s 16) (s 17) (s 94) w) : Tr (s6_p12_den K (fun s w => B1 [s 3, s 15, s 16, s 17] w) s w) :=
  tr_cond (v := ev s (.tmp 94)) (a := (fun s w => s6_p11 K B1 (s 3) (s 5) (s 6) (s 7) (s 9) (s 15) (s 16) (s 17) w) s w) (a' := (s6_p11_den K (fun s w => B1 [s 3, s 15, s 16, s 17] w)) s w) (b := (fun s w => s6_p9 K B1 (s 3) (s 5) (s 6) (s 7) (s 9) (s 10) (s 15) (s 16) (s 17) w) s w) (b' := (s6_p9_den K (fun s w => B1 [s 3, s 15, s 16, s 17] w)) s w) (p := s6_p12 K B1 (s 3) (s 5) (s 6) (s 7) (s 9) (s 10) (s 15) (s 16) (s 17) (s 94) w) (q := s6_p12_den K (fun s w => B1 [s 3, s 15, s 16, s 17] w) s w) ((fun s w h => s6_p11_ok K B1 s w @h) s w) ((fun s w h => s6_p9_ok K B1 s w @h) s w) (by kernel_rfl) (by kernel_rfl) @h
def s6_p13 (K : Value → World → Prop) (B1 : List Value → World → Prop) (t3 t5 t6 t7 t15 t16 t17 : Value) (w : World) : Prop :=
  fd 0 t5 (fun t65 w =>
  ld1 t65 (fun t66 w =>
  boI .neq t66 (.int .i64 1) (fun t67 w =>
  ifb t67
  (s6_p2 K B1 t3 t15 t16 t17 w)
  (bdq [(.int .i64 0), (.int .i64 0), (.int .i64 0), (.int .i64 0)] [] (fun t68 w =>
  nw 61 #[(.int .i64 0), (.int .i64 0), (.int .i64 0), (.int .i64 0)] (fun t9 w =>
  stn 4 t9 t68 (fun w =>
  fd 1 t5 (fun t69 w =>
  ld1 t69 (fun t70 w =>
  boI .geq t70 (.int .i64 0) (fun t71 w =>
  gd t71 true (fd 1 t5) (fun t73 w =>
  gd t71 true (ld1 t73) (fun t74 w =>
  gd t71 true (fd 3 t6) (fun t75 w =>
  gd t71 true (ld1 t75) (fun t76 w =>
  gd t71 true (lnS t76) (fun t77 w =>
  gd t71 true (boI .lss t74 t77) (fun t78 w =>
  pk t71 t78 (.bool false) (fun t79 w =>
  gd t79 true (fd 4 t5) (fun t81 w =>
  gd t79 true (ld1 t81) (fun t82 w =>
  gd t79 true (boI .geq t82 (.int .i64 0)) (fun t83 w =>
  pk t79 t83 (.bool false) (fun t84 w =>
  gd t84 true (fd 4 t5) (fun t86 w =>
  gd t84 true (ld1 t86) (fun t87 w =>
  gd t84 true (boI .lss t87 (.int .i64 3)) (fun t88 w =>
  pk t84 t88 (.bool false) (fun t89 w =>
  gd t89 true (fd 5 t5) (fun t91 w =>
  gd t89 true (ld1 t91) (fun t92 w =>
  gd t89 true (boI .geq t92 (.int .i64 1)) (fun t93 w =>
  pk t89 t93 (.bool false) (fun t94 w =>
  s6_p12 K B1 t3 t5 t6 t7 t9 (.bool false) t15 t16 t17 t94 w) w) w) w) w) w) w) w) w) w) w) w) w) w) w) w) w) w) w) w) w) w) w) w) w) w)) w) w) w
def s6_p13_den (K : Value → World → Prop) (M1 : (Nat → Value) → World → Prop) : (Nat → Value) → World → Prop := denL Try.prog [(cd (Try.f6.body.getD .skip) [1, 1, 1, 0, 1, 0, 0, 1, 1, 0, 0, 1, 1, 1, 1, 0, 0]), (cd (Try.f6.body.getD .skip) [1, 1, 1, 0, 1, 0, 0, 1, 1, 0, 0, 1, 1, 1, 1, 0, 1]), (cd (Try.f6.body.getD .skip) [1, 1, 1, 0, 1, 0, 0, 1, 1, 0, 0, 1, 1, 1, 1, 1, 0]), (cd (Try.f6.body.getD .skip) [1, 1, 1, 0, 1, 0, 0, 1, 1, 0, 0, 1, 1, 1, 1, 1, 1, 0, 0])] (s6_p12_den K M1) (fun i => (bif Nat.beq i 1 then (s6_p2_den K M1) else (bif Nat.beq i 0 then (s6_p1_den K) else (fun _ _ => False)))) (s6_R K)
theorem s6_p13_ok (K : Value → World → Prop) (B1 : List Value → World → Prop) (s : Nat → Value) (w : World) (h : s6_p13 K B1 (s 3) (s 5) (s 6) (s 7) (s 15) (s 16) (s 17) w) : Tr (s6_p13_den K (fun s w => B1 [s 3, s 15, s 16, s 17] w) s w) :=
  tr_simple (P := Try.prog) (codes := [(cd (Try.f6.body.getD .skip) [1, 1, 1, 0, 1, 0, 0, 1, 1, 0, 0, 1, 1, 1, 1, 0, 0]), (cd (Try.f6.body.getD .skip) [1, 1, 1, 0, 1, 0, 0, 1, 1, 0, 0, 1, 1, 1, 1, 0, 1]), (cd (Try.f6.body.getD .skip) [1, 1, 1, 0, 1, 0, 0, 1, 1, 0, 0, 1, 1, 1, 1, 1, 0]), (cd (Try.f6.body.getD .skip) [1, 1, 1, 0, 1, 0, 0, 1, 1, 0, 0, 1, 1, 1, 1, 1, 1, 0, 0])]) (N := (fun s w => s6_p12 K B1 (s 3) (s 5) (s 6) (s 7) (s 9) (s 10) (s 15) (s 16) (s 17) (s 94) w)) (N' := (s6_p12_den K (fun s w => B1 [s 3, s 15, s 16, s 17] w))) (X := (fun i => (bif Nat.beq i 1 then (fun s w => s6_p2 K B1 (s 3) (s 15) (s 16) (s 17) w) else (bif Nat.beq i 0 then (fun s w => s6_p1 K w) else (fun _ _ => False))))) (X' := (fun i => (bif Nat.beq i 1 then (s6_p2_den K (fun s w => B1 [s 3, s 15, s 16, s 17] w)) else (bif Nat.beq i 0 then (s6_p1_den K) else (fun _ _ => False))))) (R := s6_R K) (s := s) (w := w) (p := s6_p13 K B1 (s 3) (s 5) (s 6) (s 7) (s 15) (s 16) (s 17) w) (q := s6_p13_den K (fun s w => B1 [s 3, s 15, s 16, s 17] w) s w) (fun s w h => s6_p12_ok K B1 s w @h) (fun i => (tr_bif (fun s w h => s6_p2_ok K B1 s w @h) (tr_bif (fun s w h => s6_p1_ok K s w @h) tr_id))) (by kernel_rfl) (by kernel_rfl) @h
def s6_p14 (K : Value → World → Prop) (B1 : List Value → World → Prop) (t3 t5 t6 t7 t15 t16 t17 t53 : Value) (w : World) : Prop :=
  ifb t53
  (K (.bool false) w)
  (fd 1 t5 (fun t55 w =>
  ld1 t55 (fun t56 w =>
  fd 2 t5 (fun t57 w =>
  ld1 t57 (fun t58 w =>
  fd 4 t5 (fun t59 w =>
  ld1 t59 (fun t60 w =>
  fd 5 t5 (fun t61 w =>
  ld1 t61 (fun t62 w =>
  cl Try.prog 29 #[t3, t56, t58, t60, t62] (fun t63 w =>
  boF true .neq t63 .nilIface (fun t64 w =>
  ifb t64
  (K (.bool false) w)
  (s6_p13 K B1 t3 t5 t6 t7 t15 t16 t17 w)) w) w) w) w) w) w) w) w) w) w)
def s6_p14_den (K : Value → World → Prop) (M1 : (Nat → Value) → World → Prop) : (Nat → Value) → World → Prop := denL Try.prog [(cd (Try.f6.body.getD .skip) [1, 1, 1, 0, 1, 0, 0, 1, 1, 0, 0, 1, 1, 1, 0, 1, 0, 0, 1]), (cd (Try.f6.body.getD .skip) [1, 1, 1, 0, 1, 0, 0, 1, 1, 0, 0, 1, 1, 1, 0, 1, 0, 1, 0]), (cd (Try.f6.body.getD .skip) [1, 1, 1, 0, 1, 0, 0, 1, 1, 0, 0, 1, 1, 1, 0, 1, 0, 1, 1])] (s6_p13_den K M1) (fun i => (bif Nat.beq i 1 then (s6_p2_den K M1) else (bif Nat.beq i 0 then (s6_p1_den K) else (fun _ _ => False)))) (s6_R K)
theorem s6_p14_ok (K : Value → World → Prop) (B1 : List Value → World → Prop) (s : Nat → Value) (w : World) (h : s6_p14 K B1 (s 3) (s 5) (s 6) (s 7) (s 15) (s 16) (s 17) (s 53) w) : Tr (s6_p14_den K (fun s w => B1 [s 3, s 15, s 16, s 17] w) s w) :=
  tr_simple (P := Try.prog) (codes := [(cd (Try.f6.body.getD .skip) [1, 1, 1, 0, 1, 0, 0, 1, 1, 0, 0, 1, 1, 1, 0, 1, 0, 0, 1]), (cd (Try.f6.body.getD .skip) [1, 1, 1, 0, 1, 0, 0, 1, 1, 0, 0, 1, 1, 1, 0, 1, 0, 1, 0]), (cd (Try.f6.body.getD .skip) [1, 1, 1, 0, 1, 0, 0, 1, 1, 0, 0, 1, 1, 1, 0, 1, 0, 1, 1])]) (N := (fun s w => s6_p13 K B1 (s 3) (s 5) (s 6) (s 7) (s 15) (s 16) (s 17) w)) (N' := (s6_p13_den K (fun s w => B1 [s 3, s 15, s 16, s 17] w))) (X := (fun i => (bif Nat.beq i 1 then (fun s w => s6_p2 K B1 (s 3) (s 15) (s 16) (s 17) w) else (bif Nat.beq i 0 then (fun s w => s6_p1 K w) else (fun _ _ => False))))) (X' := (fun i => (bif Nat.beq i 1 then (s6_p2_den K (fun s w => B1 [s 3, s 15, s 16, s 17] w)) else (bif Nat.beq i 0 then (s6_p1_den K) else (fun _ _ => False))))) (R := s6_R K) (s := s) (w := w) (p := s6_p14 K B1 (s 3) (s 5) (s 6) (s 7) (s 15) (s 16) (s 17) (s 53) w) (q := s6_p14_den K (fun s w => B1 [s 3, s 15, s 16, s 17] w) s w) (fun s w h => s6_p13_ok K B1 s w @h) (fun i => (tr_bif (fun s w h => s6_p2_ok K B1 s w @h) (tr_bif (fun s w h => s6_p1_ok K s w @h) tr_id))) (by kernel_rfl) (by kernel_rfl) @h
def s6_p15_d (K : Value → World → Prop) (B1 : List Value → World → Prop) (t3 t5 t6 t7 t15 t16 t17 : Value) (w0 w : World) : Prop :=
  fd 1 t5 (fun t37 _ =>
  ld1 t37 (fun t38 _ =>
  fd 2 t5 (fun t39 _ =>
  ld1 t39 (fun t40 _ =>
  fd 4 t5 (fun t41 _ =>
  ld1 t41 (fun t42 _ =>
  fd 5 t5 (fun t43 _ =>
  ld1 t43 (fun t44 _ =>
  cl Try.prog 28 #[t3, t38, t40, t42, t44] (fun t45 w =>
  boF true .neq t45 .nilIface (fun t46 w =>
  (gd t46 false (ldn 4 t6) (fun t48 w =>
  gd t46 false (fun K w => K t3 w) (fun t49 w =>
  gd t46 false (cl Try.prog 20 #[t49]) (fun t50 w =>
  gd t46 false (cl Try.prog 19 #[t48, t50]) (fun t51 w =>
  gd t46 false (un .not t51) (fun t52 w =>
  pk t46 (.bool true) t52 (fun t53 w =>
  s6_p14 K B1 t3 t5 t6 t7 t15 t16 t17 t53 w) w) w) w) w) w) w) ∧
  (gd t46 false (fun K w => K t3 w) (fun t49_2 w =>
  (gd t46 false (ldn 4 t6) (fun t48_2 w =>
  gd t46 false (cl Try.prog 20 #[t49_2]) (fun t50_2 w =>
  gd t46 false (cl Try.prog 19 #[t48_2, t50_2]) (fun t51_2 w =>
  gd t46 false (un .not t51_2) (fun t52_2 w =>
  pk t46 (.bool true) t52_2 (fun t53_2 w =>
  s6_p14 K B1 t3 t5 t6 t7 t15 t16 t17 t53_2 w) w) w) w) w) w) ∧
  (gd t46 false (cl Try.prog 20 #[t49_2]) (fun t50_3 w =>
  gd t46 false (ldn 4 t6) (fun t48_3 w =>
  gd t46 false (cl Try.prog 19 #[t48_3, t50_3]) (fun t51_3 w =>
  gd t46 false (un .not t51_3) (fun t52_3 w =>
  pk t46 (.bool true) t52_3 (fun t53_3 w =>
  s6_p14 K B1 t3 t5 t6 t7 t15 t16 t17 t53_3 w) w) w) w) w) w)) w)) w) w) w0) w0) w0) w0) w0) w0) w0) w0
def s6_p15 (K : Value → World → Prop) (B1 : List Value → World → Prop) (t3 t5 t6 t7 t15 t16 t17 : Value) (w : World) : Prop := s6_p15_d K B1 t3 t5 t6 t7 t15 t16 t17 (drw w) (drw w)
def s6_p15_den (K : Value → World → Prop) (M1 : (Nat → Value) → World → Prop) : (Nat → Value) → World → Prop := denL Try.prog [(cd (Try.f6.body.getD .skip) [1, 1, 1, 0, 1, 0, 0, 1, 1, 0, 0, 1, 1, 1, 0, 1, 0, 0, 0])] (s6_p14_den K M1) (fun i => (bif Nat.beq i 1 then (s6_p2_den K M1) else (bif Nat.beq i 0 then (s6_p1_den K) else (fun _ _ => False)))) (s6_R K)
theorem s6_p15_ok (K : Value → World → Prop) (B1 : List Value → World → Prop) (s : Nat → Value) (w : World) (h : s6_p15 K B1 (s 3) (s 5) (s 6) (s 7) (s 15) (s 16) (s 17) w) : Tr (s6_p15_den K (fun s w => B1 [s 3, s 15, s 16, s 17] w) s w) :=
  tr_draw (P := Try.prog) (ops := (ro (cd (Try.f6.body.getD .skip) [1, 1, 1, 0, 1, 0, 0, 1, 1, 0, 0, 1, 1, 1, 0, 1, 0, 0, 0]))) (ms := [0, 0, 2, 0, 8, 0, 32, 0, 128, 511, 1023, 2047, 4095, 4095, 12287, 32767, 65535, 131071]) (cs := [0, 1, 2, 3, 4, 5, 6, 7, 8]) (N := (fun s w => s6_p14 K B1 (s 3) (s 5) (s 6) (s 7) (s 15) (s 16) (s 17) (s 53) w)) (N' := (s6_p14_den K (fun s w => B1 [s 3, s 15, s 16, s 17] w))) (s := s) (w := w) (p := s6_p15 K B1 (s 3) (s 5) (s 6) (s 7) (s 15) (s 16) (s 17) w) (q := s6_p15_den K (fun s w => B1 [s 3, s 15, s 16, s 17] w) s w) (by kernel_rfl) (by kernel_rfl) (fun s w h => s6_p14_ok K B1 s w @h) (by kernel_rfl) (by kernel_rfl) @h
def s6_p16 (K : Value → World → Prop) (B1 : List Value → World → Prop) (t3 t5 t6 t7 t15 t16 t17 t35 : Value) (w : World) : Prop :=
  ifb t35
  (s6_p15 K B1 t3 t5 t6 t7 t15 t16 t17 w)
  (s6_p13 K B1 t3 t5 t6 t7 t15 t16 t17 w)
def s6_p16_den (K : Value → World → Prop) (M1 : (Nat → Value) → World → Prop) : (Nat → Value) → World → Prop := fun s w => ifb (ev s (.tmp 35)) ((s6_p15_den K M1) s w) ((s6_p13_den K M1) s w)
theorem s6_p16_ok (K : Value → World → Prop) (B1 : List Value → World → Prop) (s : Nat → Value) (w : World) (h : s6_p16 K B1 (s 3) (s 5) (s 6) (s 7) (s 15) (s 16) (s 17) (s 35) w) : Tr (s6_p16_den K (fun s w => B1 [s 3, s 15, s 16, s 17] w) s w) :=
  tr_cond (v := ev s (.tmp 35)) (a := (fun s w => s6_p15 K B1 (s 3) (s 5) (s 6) (s 7) (s 15) (s 16) (s 17) w) s w) (a' := (s6_p15_den K (fun s w => B1 [s 3, s 15, s 16, s 17] w)) s w) (b := (fun s w => s6_p13 K B1 (s 3) (s 5) (s 6) (s 7) (s 15) (s 16) (s 17) w) s w) (b' := (s6_p13_den K (fun s w => B1 [s 3, s 15, s 16, s 17] w)) s w) (p := s6_p16 K B1 (s 3) (s 5) (s 6) (s 7) (s 15) (s 16) (s 17) (s 35) w) (q := s6_p16_den K (fun s w => B1 [s 3, s 15, s 16, s 17] w) s w) ((fun s w h => s6_p15_ok K B1 s w @h) s w) ((fun s w h => s6_p13_ok K B1 s w @h) s w) (by kernel_rfl) (by kernel_rfl) @h
def s6_p17 (K : Value → World → Prop) (B1 : List Value → World → Prop) (t3 t15 t16 t17 : Value) (w : World) : Prop :=
  ixs 6 t15 t17 (fun t19 w =>
  ldn 6 t19 (fun t20 w =>
  nw 34 #[(.int .i64 0), (.int .i64 0), (.int .i64 0), (.int .i64 0), (.int .i64 0), (.int .i64 0)] (fun t5 w =>
  stn 6 t5 t20 (fun w =>
  cl Try.prog 20 #[t3] (fun t22 w =>
  nw 43 #[(.bool false), (.int .i64 0), (.slice none 0 0), (.slice none 0 0)] (fun t6 w =>
  stn 4 t6 t22 (fun w =>
  ldn 6 t5 (fun t25 w =>
  cl Try.prog 17 #[t3, t25] (fun t26 w =>
  exq t26 0 (fun t27 w =>
  exq t26 1 (fun t28 w =>
  fd 0 t5 (fun t29 w =>
  ld1 t29 (fun t30 w =>
  boI .eql t30 (.int .i64 0) (fun t31 w =>
  gd t31 true (fun K w => K t27 w) (fun t33 w =>
  gd t31 true (boI .eql t33 (.int .i64 0)) (fun t34 w =>
  pk t31 t34 (.bool false) (fun t35 w =>
  s6_p16 K B1 t3 t5 t6 t27 t15 t16 t17 t35 w) w) w) w) w) w) w) w) w) w) w) w) w) w) w) w) w) w
def s6_p17_den (K : Value → World → Prop) (M1 : (Nat → Value) → World → Prop) : (Nat → Value) → World → Prop := denL Try.prog [(cd (Try.f6.body.getD .skip) [1, 1, 1, 0, 1, 0, 0, 1, 1, 0, 0, 0]), (cd (Try.f6.body.getD .skip) [1, 1, 1, 0, 1, 0, 0, 1, 1, 0, 0, 1, 0]), (cd (Try.f6.body.getD .skip) [1, 1, 1, 0, 1, 0, 0, 1, 1, 0, 0, 1, 1, 0]), (cd (Try.f6.body.getD .skip) [1, 1, 1, 0, 1, 0, 0, 1, 1, 0, 0, 1, 1, 1, 0, 0])] (s6_p16_den K M1) (fun i => (bif Nat.beq i 1 then (s6_p2_den K M1) else (bif Nat.beq i 0 then (s6_p1_den K) else (fun _ _ => False)))) (s6_R K)
theorem s6_p17_ok (K : Value → World → Prop) (B1 : List Value → World → Prop) (s : Nat → Value) (w : World) (h : s6_p17 K B1 (s 3) (s 15) (s 16) (s 17) w) : Tr (s6_p17_den K (fun s w => B1 [s 3, s 15, s 16, s 17] w) s w) :=
  tr_simple (P := Try.prog) (codes := [(cd (Try.f6.body.getD .skip) [1, 1, 1, 0, 1, 0, 0, 1, 1, 0, 0, 0]), (cd (Try.f6.body.getD .skip) [1, 1, 1, 0, 1, 0, 0, 1, 1, 0, 0, 1, 0]), (cd (Try.f6.body.getD .skip) [1, 1, 1, 0, 1, 0, 0, 1, 1, 0, 0, 1, 1, 0]), (cd (Try.f6.body.getD .skip) [1, 1, 1, 0, 1, 0, 0, 1, 1, 0, 0, 1, 1, 1, 0, 0])]) (N := (fun s w => s6_p16 K B1 (s 3) (s 5) (s 6) (s 7) (s 15) (s 16) (s 17) (s 35) w)) (N' := (s6_p16_den K (fun s w => B1 [s 3, s 15, s 16, s 17] w))) (X := (fun i => (bif Nat.beq i 1 then (fun s w => s6_p2 K B1 (s 3) (s 15) (s 16) (s 17) w) else (bif Nat.beq i 0 then (fun s w => s6_p1 K w) else (fun _ _ => False))))) (X' := (fun i => (bif Nat.beq i 1 then (s6_p2_den K (fun s w => B1 [s 3, s 15, s 16, s 17] w)) else (bif Nat.beq i 0 then (s6_p1_den K) else (fun _ _ => False))))) (R := s6_R K) (s := s) (w := w) (p := s6_p17 K B1 (s 3) (s 15) (s 16) (s 17) w) (q := s6_p17_den K (fun s w => B1 [s 3, s 15, s 16, s 17] w) s w) (fun s w h => s6_p16_ok K B1 s w @h) (fun i => (tr_bif (fun s w h => s6_p2_ok K B1 s w @h) (tr_bif (fun s w h => s6_p1_ok K s w @h) tr_id))) (by kernel_rfl) (by kernel_rfl) @h
def s6_p18 (K : Value → World → Prop) (B1 : List Value → World → Prop) (t3 t15 t16 t17 : Value) (w : World) : Prop :=
  boI .lss t17 t16 (fun t18 w =>
  ifb t18
  (s6_p17 K B1 t3 t15 t16 t17 w)
  (s6_p1 K w)) w
def s6_p18_den (K : Value → World → Prop) (M1 : (Nat → Value) → World → Prop) : (Nat → Value) → World → Prop := denL Try.prog [(cd (Try.f6.body.getD .skip) [1, 1, 1, 0, 1, 0, 0, 0]), (cd (Try.f6.body.getD .skip) [1, 1, 1, 0, 1, 0, 0, 1, 0])] (s6_p17_den K M1) (fun i => (bif Nat.beq i 0 then (s6_p1_den K) else (fun _ _ => False))) (s6_R K)
theorem s6_p18_ok (K : Value → World → Prop) (B1 : List Value → World → Prop) (s : Nat → Value) (w : World) (h : s6_p18 K B1 (s 3) (s 15) (s 16) (s 17) w) : Tr (s6_p18_den K (fun s w => B1 [s 3, s 15, s 16, s 17] w) s w) :=
  tr_simple (P := Try.prog) (codes := [(cd (Try.f6.body.getD .skip) [1, 1, 1, 0, 1, 0, 0, 0]), (cd (Try.f6.body.getD .skip) [1, 1, 1, 0, 1, 0, 0, 1, 0])]) (N := (fun s w => s6_p17 K B1 (s 3) (s 15) (s 16) (s 17) w)) (N' := (s6_p17_den K (fun s w => B1 [s 3, s 15, s 16, s 17] w))) (X := (fun i => (bif Nat.beq i 0 then (fun s w => s6_p1 K w) else (fun _ _ => False)))) (X' := (fun i => (bif Nat.beq i 0 then (s6_p1_den K) else (fun _ _ => False)))) (R := s6_R K) (s := s) (w := w) (p := s6_p18 K B1 (s 3) (s 15) (s 16) (s 17) w) (q := s6_p18_den K (fun s w => B1 [s 3, s 15, s 16, s 17] w) s w) (fun s w h => s6_p17_ok K B1 s w @h) (fun i => (tr_bif (fun s w h => s6_p1_ok K s w @h) tr_id)) (by kernel_rfl) (by kernel_rfl) @h
def s6_p19_F (K : Value → World → Prop) (B1 : List Value → World → Prop) (l : List Value) (w : World) : Prop :=
  match l with
  | [t3, t15, t16, t17] => s6_p18 K B1 t3 t15 t16 t17 w
  | _ => False
theorem s6_p19_Fe {K : Value → World → Prop} {B1 : List Value → World → Prop} {t3 t15 t16 t17 : Value} {w : World} : s6_p19_F K B1 [t3, t15, t16, t17] w = s6_p18 K B1 t3 t15 t16 t17 w := by kernel_rfl
def s6_p19 (K : Value → World → Prop) (t3 t15 t16 t17 : Value) (w : World) : Prop :=
  LoopL (s6_p19_F K) [t3, t15, t16, t17] w
def s6_p19_den (K : Value → World → Prop) : (Nat → Value) → World → Prop := fun s w => LoopP (fun M1 s w => s6_p18_den K M1 s w) s w
theorem s6_p19_ok (K : Value → World → Prop) (s : Nat → Value) (w : World) (h : s6_p19 K (s 3) (s 15) (s 16) (s 17) w) : Tr (s6_p19_den K s w) :=
  tr_loop (G := fun N' s w => s6_p18_den K N' s w) (F := s6_p19_F K) (sel := fun s => [s 3, s 15, s 16, s 17]) (s := s) (w := w) (p := s6_p19 K (s 3) (s 15) (s 16) (s 17) w) (q := s6_p19_den K s w) (fun B s w h => s6_p18_ok K B s w @h) (by kernel_rfl) (by kernel_rfl) @h
def s6_p20 (K : Value → World → Prop) (t0 : Value) (w : World) : Prop :=
  cl Try.prog 13 #[t0] (fun t12 w =>
  un .not t12 (fun t13 w =>
  ifb t13
  (K (.bool true) w)
  (cl Try.prog 14 #[] (fun t14 w =>
  lnS t0 (fun t16 w =>
  s6_p19 K t14 t0 t16 (.int .i64 0) w) w) w)) w) w
def s6_p20_den (K : Value → World → Prop) : (Nat → Value) → World → Prop := denL Try.prog [(cd (Try.f6.body.getD .skip) [0]), (cd (Try.f6.body.getD .skip) [1, 0, 0]), (cd (Try.f6.body.getD .skip) [1, 0, 1]), (cd (Try.f6.body.getD .skip) [1, 1, 0]), (cd (Try.f6.body.getD .skip) [1, 1, 1, 0, 0])] (s6_p19_den K) (fun i => (fun _ _ => False)) (s6_R K)
theorem s6_p20_ok (K : Value → World → Prop) (s : Nat → Value) (w : World) (h : s6_p20 K (s 0) w) : Tr (s6_p20_den K s w) :=
  tr_simple (P := Try.prog) (codes := [(cd (Try.f6.body.getD .skip) [0]), (cd (Try.f6.body.getD .skip) [1, 0, 0]), (cd (Try.f6.body.getD .skip) [1, 0, 1]), (cd (Try.f6.body.getD .skip) [1, 1, 0]), (cd (Try.f6.body.getD .skip) [1, 1, 1, 0, 0])]) (N := (fun s w => s6_p19 K (s 3) (s 15) (s 16) (s 17) w)) (N' := (s6_p19_den K)) (X := (fun i => (fun _ _ => False))) (X' := (fun i => (fun _ _ => False))) (R := s6_R K) (s := s) (w := w) (p := s6_p20 K (s 0) w) (q := s6_p20_den K s w) (fun s w h => s6_p19_ok K s w @h) (fun i => tr_id) (by kernel_rfl) (by kernel_rfl) @h
/-- the call, from the text -/
theorem c6 (t0 : Value) {K : Value → World → Prop} {w : World} (h : s6_p20 K t0 w) : cl Try.prog 6 #[t0] K w :=
  calls_of_tr (c := (Try.f6.body.getD .skip)) (fn := Try.f6) (q := s6_p20_den K (st0 #[t0]) w) Try.func6 (by kernel_rfl) (by kernel_rfl) (Nat.le_of_ble_eq_true (by kernel_rfl)) (by kernel_rfl) (by kernel_rfl) (s6_p20_ok K (st0 #[t0]) w @h)

/-! ### function 7 : e2e.slotslaw.AdvanceClearsExactlyTheExpired -/
def s7_R (K : Value → World → Prop) (s : Nat → Value) (w : World) : Prop := retv Try.prog s Try.f7.results.toList (fun vs => K (pack vs) w) w
def s7_p1 (K : Value → World → Prop) (w : World) : Prop :=
  K (.bool true) w
def s7_p1_den (K : Value → World → Prop) : (Nat → Value) → World → Prop := denL Try.prog [(cd (Try.f7.body.getD .skip) [1, 1, 1, 1, 0]), (cd (Try.f7.body.getD .skip) [1, 1, 1, 1, 1])] (fun _ _ => False) (fun i => (fun _ _ => False)) (s7_R K)
theorem s7_p1_ok (K : Value → World → Prop) (s : Nat → Value) (w : World) (h : s7_p1 K w) : Tr (s7_p1_den K s w) :=
  tr_simple (P := Try.prog) (codes := [(cd (Try.f7.body.getD .skip) [1, 1, 1, 1, 0]), (cd (Try.f7.body.getD .skip) [1, 1, 1, 1, 1])]) (N := (fun _ _ => False)) (N' := (fun _ _ => False)) (X := (fun i => (fun _ _ => False))) (X' := (fun i => (fun _ _ => False))) (R := s7_R K) (s := s) (w := w) (p := s7_p1 K w) (q := s7_p1_den K s w) tr_id (fun i => tr_id) (by kernel_rfl) (by kernel_rfl) @h
def s7_p2 (K : Value → World → Prop) (B1 : List Value → World → Prop) (t3 t25 t26 t27 : Value) (w : World) : Prop :=
  boI .add t27 (.int .i64 1) (fun t161 w =>
  B1 [t3, t25, t26, t161] w) w
def s7_p2_den (K : Value → World → Prop) (M1 : (Nat → Value) → World → Prop) : (Nat → Value) → World → Prop := denL Try.prog [(cd (Try.f7.body.getD .skip) [1, 1, 1, 0, 1, 0, 0, 1, 1, 1])] M1 (fun i => (bif Nat.beq i 0 then (s7_p1_den K) else (fun _ _ => False))) (s7_R K)
theorem s7_p2_ok (K : Value → World → Prop) (B1 : List Value → World → Prop) (s : Nat → Value) (w : World) (h : s7_p2 K B1 (s 3) (s 25) (s 26) (s 27) w) : Tr (s7_p2_den K (fun s w => B1 [s 3, s 25, s 26, s 27] w) s w) :=
  tr_simple (P := Try.prog) (codes := [(cd (Try.f7.body.getD .skip) [1, 1, 1, 0, 1, 0, 0, 1, 1, 1])]) (N := (fun s w => B1 [s 3, s 25, s 26, s 27] w)) (N' := (fun s w => B1 [s 3, s 25, s 26, s 27] w)) (X := (fun i => (bif Nat.beq i 0 then (fun s w => s7_p1 K w) else (fun _ _ => False)))) (X' := (fun i => (bif Nat.beq i 0 then (s7_p1_den K) else (fun _ _ => False)))) (R := s7_R K) (s := s) (w := w) (p := s7_p2 K B1 (s 3) (s 25) (s 26) (s 27) w) (q := s7_p2_den K (fun s w => B1 [s 3, s 25, s 26, s 27] w) s w) tr_id (fun i => (tr_bif (fun s w h => s7_p1_ok K s w @h) tr_id)) (by kernel_rfl) (by kernel_rfl) @h
def s7_p3 (K : Value → World → Prop) (B1 : List Value → World → Prop) (B2 : List Value → World → Prop) (t3 t6 t9 t25 t26 t27 t118 t119 : Value) (w : World) : Prop :=
  boI .add t119 (.int .i64 1) (fun t160 w =>
  B2 [t3, t6, t9, t25, t26, t27, t118, t160] w) w
def s7_p3_den (K : Value → World → Prop) (M1 : (Nat → Value) → World → Prop) (M2 : (Nat → Value) → World → Prop) : (Nat → Value) → World → Prop := denL Try.prog [(cd (Try.f7.body.getD .skip) [1, 1, 1, 0, 1, 0, 0, 1, 1, 0, 0, 1, 1, 1, 1, 1, 1, 1, 1, 0, 0, 1, 1, 1])] M2 (fun i => (bif Nat.beq i 6 then (s7_p2_den K M1) else (bif Nat.beq i 1 then (s7_p2_den K M1) else (bif Nat.beq i 0 then (s7_p1_den K) else (fun _ _ => False))))) (s7_R K)
theorem s7_p3_ok (K : Value → World → Prop) (B1 : List Value → World → Prop) (B2 : List Value → World → Prop) (s : Nat → Value) (w : World) (h : s7_p3 K B1 B2 (s 3) (s 6) (s 9) (s 25) (s 26) (s 27) (s 118) (s 119) w) : Tr (s7_p3_den K (fun s w => B1 [s 3, s 25, s 26, s 27] w) (fun s w => B2 [s 3, s 6, s 9, s 25, s 26, s 27, s 118, s 119] w) s w) :=
  tr_simple (P := Try.prog) (codes := [(cd (Try.f7.body.getD .skip) [1, 1, 1, 0, 1, 0, 0, 1, 1, 0, 0, 1, 1, 1, 1, 1, 1, 1, 1, 0, 0, 1, 1, 1])]) (N := (fun s w => B2 [s 3, s 6, s 9, s 25, s 26, s 27, s 118, s 119] w)) (N' := (fun s w => B2 [s 3, s 6, s 9, s 25, s 26, s 27, s 118, s 119] w)) (X := (fun i => (bif Nat.beq i 6 then (fun s w => s7_p2 K B1 (s 3) (s 25) (s 26) (s 27) w) else (bif Nat.beq i 1 then (fun s w => s7_p2 K B1 (s 3) (s 25) (s 26) (s 27) w) else (bif Nat.beq i 0 then (fun s w => s7_p1 K w) else (fun _ _ => False)))))) (X' := (fun i => (bif Nat.beq i 6 then (s7_p2_den K (fun s w => B1 [s 3, s 25, s 26, s 27] w)) else (bif Nat.beq i 1 then (s7_p2_den K (fun s w => B1 [s 3, s 25, s 26, s 27] w)) else (bif Nat.beq i 0 then (s7_p1_den K) else (fun _ _ => False)))))) (R := s7_R K) (s := s) (w := w) (p := s7_p3 K B1 B2 (s 3) (s 6) (s 9) (s 25) (s 26) (s 27) (s 118) (s 119) w) (q := s7_p3_den K (fun s w => B1 [s 3, s 25, s 26, s 27] w) (fun s w => B2 [s 3, s 6, s 9, s 25, s 26, s 27, s 118, s 119] w) s w) tr_id (fun i => (tr_bif (fun s w h => s7_p2_ok K B1 s w @h) (tr_bif (fun s w h => s7_p2_ok K B1 s w @h) (tr_bif (fun s w h => s7_p1_ok K s w @h) tr_id)))) (by kernel_rfl) (by kernel_rfl) @h
def s7_p4 (K : Value → World → Prop) (B1 : List Value → World → Prop) (B2 : List Value → World → Prop) (B3 : List Value → World → Prop) (t3 t6 t9 t16 t25 t26 t27 t118 t119 t126 t127 t128 : Value) (w : World) : Prop :=
  boI .add t128 (.int .i64 1) (fun t159 w =>
  B3 [t3, t6, t9, t16, t25, t26, t27, t118, t119, t126, t127, t159] w) w
def s7_p4_den (K : Value → World → Prop) (M1 : (Nat → Value) → World → Prop) (M2 : (Nat → Value) → World → Prop) (M3 : (Nat → Value) → World → Prop) : (Nat → Value) → World → Prop := denL Try.prog [(cd (Try.f7.body.getD .skip) [1, 1, 1, 0, 1, 0, 0, 1, 1, 0, 0, 1, 1, 1, 1, 1, 1, 1, 1, 0, 0, 1, 1, 0, 0, 1, 1, 0, 0, 1, 1, 1])] M3 (fun i => (bif Nat.beq i 8 then (s7_p3_den K M1 M2) else (bif Nat.beq i 7 then (s7_p3_den K M1 M2) else (bif Nat.beq i 6 then (s7_p2_den K M1) else (bif Nat.beq i 1 then (s7_p2_den K M1) else (bif Nat.beq i 0 then (s7_p1_den K) else (fun _ _ => False))))))) (s7_R K)
theorem s7_p4_ok (K : Value → World → Prop) (B1 : List Value → World → Prop) (B2 : List Value → World → Prop) (B3 : List Value → World → Prop) (s : Nat → Value) (w : World) (h : s7_p4 K B1 B2 B3 (s 3) (s 6) (s 9) (s 16) (s 25) (s 26) (s 27) (s 118) (s 119) (s 126) (s 127) (s 128) w) : Tr (s7_p4_den K (fun s w => B1 [s 3, s 25, s 26, s 27] w) (fun s w => B2 [s 3, s 6, s 9, s 25, s 26, s 27, s 118, s 119] w) (fun s w => B3 [s 3, s 6, s 9, s 16, s 25, s 26, s 27, s 118, s 119, s 126, s 127, s 128] w) s w) :=
  tr_simple (P := Try.prog) (codes := [(cd (Try.f7.body.getD .skip) [1, 1, 1, 0, 1, 0, 0, 1, 1, 0, 0, 1, 1, 1, 1, 1, 1, 1, 1, 0, 0, 1, 1, 0, 0, 1, 1, 0, 0, 1, 1, 1])]) (N := (fun s w => B3 [s 3, s 6, s 9, s 16, s 25, s 26, s 27, s 118, s 119, s 126, s 127, s 128] w)) (N' := (fun s w => B3 [s 3, s 6, s 9, s 16, s 25, s 26, s 27, s 118, s 119, s 126, s 127, s 128] w)) (X := (fun i => (bif Nat.beq i 8 then (fun s w => s7_p3 K B1 B2 (s 3) (s 6) (s 9) (s 25) (s 26) (s 27) (s 118) (s 119) w) else (bif Nat.beq i 7 then (fun s w => s7_p3 K B1 B2 (s 3) (s 6) (s 9) (s 25) (s 26) (s 27) (s 118) (s 119) w) else (bif Nat.beq i 6 then (fun s w => s7_p2 K B1 (s 3) (s 25) (s 26) (s 27) w) else (bif Nat.beq i 1 then (fun s w => s7_p2 K B1 (s 3) (s 25) (s 26) (s 27) w) else (bif Nat.beq i 0 then (fun s w => s7_p1 K w) else (fun _ _ => False)))))))) (X' := (fun i => (bif Nat.beq i 8 then (s7_p3_den K (fun s w => B1 [s 3, s 25, s 26, s 27] w) (fun s w => B2 [s 3, s 6, s 9, s 25, s 26, s 27, s 118, s 119] w)) else (bif Nat.beq i 7 then (s7_p3_den K (fun s w => B1 [s 3, s 25, s 26, s 27] w) (fun s w => B2 [s 3, s 6, s 9, s 25, s 26, s 27, s 118, s 119] w)) else (bif Nat.beq i 6 then (s7_p2_den K (fun s w => B1 [s 3, s 25, s 26, s 27] w)) else (bif Nat.beq i 1 then (s7_p2_den K (fun s w => B1 [s 3, s 25, s 26, s 27] w)) else (bif Nat.beq i 0 then (s7_p1_den K) else (fun _ _ => False)))))))) (R := s7_R K) (s := s) (w := w) (p := s7_p4 K B1 B2 B3 (s 3) (s 6) (s 9) (s 16) (s 25) (s 26) (s 27) (s 118) (s 119) (s 126) (s 127) (s 128) w) (q := s7_p4_den K (fun s w => B1 [s 3, s 25, s 26, s 27] w) (fun s w => B2 [s 3, s 6, s 9, s 25, s 26, s 27, s 118, s 119] w) (fun s w => B3 [s 3, s 6, s 9, s 16, s 25, s 26, s 27, s 118, s 119, s 126, s 127, s 128] w) s w) tr_id (fun i => (tr_bif (fun s w h => s7_p3_ok K B1 B2 s w @h) (tr_bif (fun s w h => s7_p3_ok K B1 B2 s w @h) (tr_bif (fun s w h => s7_p2_ok K B1 s w @h) (tr_bif (fun s w h => s7_p2_ok K B1 s w @h) (tr_bif (fun s w h => s7_p1_ok K s w @h) tr_id)))))) (by kernel_rfl) (by kernel_rfl) @h
def s7_p5 (K : Value → World → Prop) (B1 : List Value → World → Prop) (B2 : List Value → World → Prop) (B3 : List Value → World → Prop) (t3 t6 t9 t16 t18 t19 t20 t25 t26 t27 t118 t119 t126 t127 t128 : Value) (w : World) : Prop :=
  gd t20 true (ldn 4 t18) (fun t148 w =>
  gd t20 true (ldn 4 t19) (fun t149 w =>
  gd t20 true (bor Try.prog .neq 61 (.tmp 148) (.tmp 149) t148 t149) (fun t150 w =>
  pk t20 t150 (.bool false) (fun t151 w =>
  ifb t151
  (K (.bool false) w)
  (un .not t20 (fun t153 w =>
  gd t153 true (ldn 4 t18) (fun t155 w =>
  gd t153 true (bdq [(.int .i64 0), (.int .i64 0), (.int .i64 0), (.int .i64 0)] []) (fun t156 w =>
  gd t153 true (bor Try.prog .neq 61 (.tmp 155) (.tmp 156) t155 t156) (fun t157 w =>
  pk t153 t157 (.bool false) (fun t158 w =>
  ifb t158
  (K (.bool false) w)
  (s7_p4 K B1 B2 B3 t3 t6 t9 t16 t25 t26 t27 t118 t119 t126 t127 t128 w)) w) w) w) w) w)) w) w) w) w
def s7_p5_den (K : Value → World → Prop) (M1 : (Nat → Value) → World → Prop) (M2 : (Nat → Value) → World → Prop) (M3 : (Nat → Value) → World → Prop) : (Nat → Value) → World → Prop := denL Try.prog [(cd (Try.f7.body.getD .skip) [1, 1, 1, 0, 1, 0, 0, 1, 1, 0, 0, 1, 1, 1, 1, 1, 1, 1, 1, 0, 0, 1, 1, 0, 0, 1, 1, 0, 0, 1, 1, 0, 0, 1, 1, 0, 0]), (cd (Try.f7.body.getD .skip) [1, 1, 1, 0, 1, 0, 0, 1, 1, 0, 0, 1, 1, 1, 1, 1, 1, 1, 1, 0, 0, 1, 1, 0, 0, 1, 1, 0, 0, 1, 1, 0, 0, 1, 1, 0, 1]), (cd (Try.f7.body.getD .skip) [1, 1, 1, 0, 1, 0, 0, 1, 1, 0, 0, 1, 1, 1, 1, 1, 1, 1, 1, 0, 0, 1, 1, 0, 0, 1, 1, 0, 0, 1, 1, 0, 0, 1, 1, 1, 0]), (cd (Try.f7.body.getD .skip) [1, 1, 1, 0, 1, 0, 0, 1, 1, 0, 0, 1, 1, 1, 1, 1, 1, 1, 1, 0, 0, 1, 1, 0, 0, 1, 1, 0, 0, 1, 1, 0, 0, 1, 1, 1, 1])] (s7_p4_den K M1 M2 M3) (fun i => (bif Nat.beq i 9 then (s7_p4_den K M1 M2 M3) else (bif Nat.beq i 8 then (s7_p3_den K M1 M2) else (bif Nat.beq i 7 then (s7_p3_den K M1 M2) else (bif Nat.beq i 6 then (s7_p2_den K M1) else (bif Nat.beq i 1 then (s7_p2_den K M1) else (bif Nat.beq i 0 then (s7_p1_den K) else (fun _ _ => False)))))))) (s7_R K)
theorem s7_p5_ok (K : Value → World → Prop) (B1 : List Value → World → Prop) (B2 : List Value → World → Prop) (B3 : List Value → World → Prop) (s : Nat → Value) (w : World) (h : s7_p5 K B1 B2 B3 (s 3) (s 6) (s 9) (s 16) (s 18) (s 19) (s 20) (s 25) (s 26) (s 27) (s 118) (s 119) (s 126) (s 127) (s 128) w) : Tr (s7_p5_den K (fun s w => B1 [s 3, s 25, s 26, s 27] w) (fun s w => B2 [s 3, s 6, s 9, s 25, s 26, s 27, s 118, s 119] w) (fun s w => B3 [s 3, s 6, s 9, s 16, s 25, s 26, s 27, s 118, s 119, s 126, s 127, s 128] w) s w) :=
  tr_simple (P := Try.prog) (codes := [(cd (Try.f7.body.getD .skip) [1, 1, 1, 0, 1, 0, 0, 1, 1, 0, 0, 1, 1, 1, 1, 1, 1, 1, 1, 0, 0, 1, 1, 0, 0, 1, 1, 0, 0, 1, 1, 0, 0, 1, 1, 0, 0]), (cd (Try.f7.body.getD .skip) [1, 1, 1, 0, 1, 0, 0, 1, 1, 0, 0, 1, 1, 1, 1, 1, 1, 1, 1, 0, 0, 1, 1, 0, 0, 1, 1, 0, 0, 1, 1, 0, 0, 1, 1, 0, 1]), (cd (Try.f7.body.getD .skip) [1, 1, 1, 0, 1, 0, 0, 1, 1, 0, 0, 1, 1, 1, 1, 1, 1, 1, 1, 0, 0, 1, 1, 0, 0, 1, 1, 0, 0, 1, 1, 0, 0, 1, 1, 1, 0]), (cd (Try.f7.body.getD .skip) [1, 1, 1, 0, 1, 0, 0, 1, 1, 0, 0, 1, 1, 1, 1, 1, 1, 1, 1, 0, 0, 1, 1, 0, 0, 1, 1, 0, 0, 1, 1, 0, 0, 1, 1, 1, 1])]) (N := (fun s w => s7_p4 K B1 B2 B3 (s 3) (s 6) (s 9) (s 16) (s 25) (s 26) (s 27) (s 118) (s 119) (s 126) (s 127) (s 128) w)) (N' := (s7_p4_den K (fun s w => B1 [s 3, s 25, s 26, s 27] w) (fun s w => B2 [s 3, s 6, s 9, s 25, s 26, s 27, s 118, s 119] w) (fun s w => B3 [s 3, s 6, s 9, s 16, s 25, s 26, s 27, s 118, s 119, s 126, s 127, s 128] w))) (X := (fun i => (bif Nat.beq i 9 then (fun s w => s7_p4 K B1 B2 B3 (s 3) (s 6) (s 9) (s 16) (s 25) (s 26) (s 27) (s 118) (s 119) (s 126) (s 127) (s 128) w) else (bif Nat.beq i 8 then (fun s w => s7_p3 K B1 B2 (s 3) (s 6) (s 9) (s 25) (s 26) (s 27) (s 118) (s 119) w) else (bif Nat.beq i 7 then (fun s w => s7_p3 K B1 B2 (s 3) (s 6) (s 9) (s 25) (s 26) (s 27) (s 118) (s 119) w) else (bif Nat.beq i 6 then (fun s w => s7_p2 K B1 (s 3) (s 25) (s 26) (s 27) w) else (bif Nat.beq i 1 then (fun s w => s7_p2 K B1 (s 3) (s 25) (s 26) (s 27) w) else (bif Nat.beq i 0 then (fun s w => s7_p1 K w) else (fun _ _ => False))))))))) (X' := (fun i => (bif Nat.beq i 9 then (s7_p4_den K (fun s w => B1 [s 3, s 25, s 26, s 27] w) (fun s w => B2 [s 3, s 6, s 9, s 25, s 26, s 27, s 118, s 119] w) (fun s w => B3 [s 3, s 6, s 9, s 16, s 25, s 26, s 27, s 118, s 119, s 126, s 127, s 128] w)) else (bif Nat.beq i 8 then (s7_p3_den K (fun s w => B1 [s 3, s 25, s 26, s 27] w) (fun s w => B2 [s 3, s 6, s 9, s 25, s 26, s 27, s 118, s 119] w)) else (bif Nat.beq i 7 then (s7_p3_den K (fun s w => B1 [s 3, s 25, s 26, s 27] w) (fun s w => B2 [s 3, s 6, s 9, s 25, s 26, s 27, s 118, s 119] w)) else (bif Nat.beq i 6 then (s7_p2_den K (fun s w => B1 [s 3, s 25, s 26, s 27] w)) else (bif Nat.beq i 1 then (s7_p2_den K (fun s w => B1 [s 3, s 25, s 26, s 27] w)) else (bif Nat.beq i 0 then (s7_p1_den K) else (fun _ _ => False))))))))) (R := s7_R K) (s := s) (w := w) (p := s7_p5 K B1 B2 B3 (s 3) (s 6) (s 9) (s 16) (s 18) (s 19) (s 20) (s 25) (s 26) (s 27) (s 118) (s 119) (s 126) (s 127) (s 128) w) (q := s7_p5_den K (fun s w => B1 [s 3, s 25, s 26, s 27] w) (fun s w => B2 [s 3, s 6, s 9, s 25, s 26, s 27, s 118, s 119] w) (fun s w => B3 [s 3, s 6, s 9, s 16, s 25, s 26, s 27, s 118, s 119, s 126, s 127, s 128] w) s w) (fun s w h => s7_p4_ok K B1 B2 B3 s w @h) (fun i => (tr_bif (fun s w h => s7_p4_ok K B1 B2 B3 s w @h) (tr_bif (fun s w h => s7_p3_ok K B1 B2 s w @h) (tr_bif (fun s w h => s7_p3_ok K B1 B2 s w @h) (tr_bif (fun s w h => s7_p2_ok K B1 s w @h) (tr_bif (fun s w h => s7_p2_ok K B1 s w @h) (tr_bif (fun s w h => s7_p1_ok K s w @h) tr_id))))))) (by kernel_rfl) (by kernel_rfl) @h
def s7_p6_d (K : Value → World → Prop) (B1 : List Value → World → Prop) (B2 : List Value → World → Prop) (B3 : List Value → World → Prop) (t3 t6 t9 t16 t17 t18 t25 t26 t27 t118 t119 t126 t127 t128 : Value) (w0 w : World) : Prop :=
  ldn 4 t6 (fun t134 _ =>
  fd 2 t9 (fun t136 _ =>
  ld1 t136 (fun t137 _ =>
  ixs 1 t137 t16 (fun t139 _ =>
  ld1 t139 (fun t140 _ =>
  boI .add t140 t17 (fun t142 _ =>
  (cl Try.prog 26 #[t134, t16, t142] (fun t143 w =>
  ((exq t143 0 (fun t144 w =>
  (exq t143 1 (fun t145 w =>
  nw 61 #[(.int .i64 0), (.int .i64 0), (.int .i64 0), (.int .i64 0)] (fun t19 w =>
  Below w0.heap.size w0 w ∧
  stn 4 t19 t144 (fun w =>
  s7_p5 K B1 B2 B3 t3 t6 t9 t16 t18 t19 t145 t25 t26 t27 t118 t119 t126 t127 t128 w) w) w) w) ∧
  (nw 61 #[(.int .i64 0), (.int .i64 0), (.int .i64 0), (.int .i64 0)] (fun t19_2 w =>
  Below w0.heap.size w0 w ∧
  (exq t143 1 (fun t145_2 w =>
  stn 4 t19_2 t144 (fun w =>
  s7_p5 K B1 B2 B3 t3 t6 t9 t16 t18 t19_2 t145_2 t25 t26 t27 t118 t119 t126 t127 t128 w) w) w) ∧
  (stn 4 t19_2 t144 (fun w =>
  exq t143 1 (fun t145_3 w =>
  s7_p5 K B1 B2 B3 t3 t6 t9 t16 t18 t19_2 t145_3 t25 t26 t27 t118 t119 t126 t127 t128 w) w) w)) w)) w) ∧
  (exq t143 1 (fun t145_4 w =>
  (exq t143 0 (fun t144_2 w =>
  nw 61 #[(.int .i64 0), (.int .i64 0), (.int .i64 0), (.int .i64 0)] (fun t19_3 w =>
  Below w0.heap.size w0 w ∧
  stn 4 t19_3 t144_2 (fun w =>
  s7_p5 K B1 B2 B3 t3 t6 t9 t16 t18 t19_3 t145_4 t25 t26 t27 t118 t119 t126 t127 t128 w) w) w) w) ∧
  (nw 61 #[(.int .i64 0), (.int .i64 0), (.int .i64 0), (.int .i64 0)] (fun t19_4 w =>
  Below w0.heap.size w0 w ∧
  exq t143 0 (fun t144_3 w =>
  stn 4 t19_4 t144_3 (fun w =>
  s7_p5 K B1 B2 B3 t3 t6 t9 t16 t18 t19_4 t145_4 t25 t26 t27 t118 t119 t126 t127 t128 w) w) w) w)) w) ∧
  (nw 61 #[(.int .i64 0), (.int .i64 0), (.int .i64 0), (.int .i64 0)] (fun t19_5 w =>
  Below w0.heap.size w0 w ∧
  (exq t143 0 (fun t144_4 w =>
  (exq t143 1 (fun t145_5 w =>
  stn 4 t19_5 t144_4 (fun w =>
  s7_p5 K B1 B2 B3 t3 t6 t9 t16 t18 t19_5 t145_5 t25 t26 t27 t118 t119 t126 t127 t128 w) w) w) ∧
  (stn 4 t19_5 t144_4 (fun w =>
  exq t143 1 (fun t145_6 w =>
  s7_p5 K B1 B2 B3 t3 t6 t9 t16 t18 t19_5 t145_6 t25 t26 t27 t118 t119 t126 t127 t128 w) w) w)) w) ∧
  (exq t143 1 (fun t145_7 w =>
  exq t143 0 (fun t144_5 w =>
  stn 4 t19_5 t144_5 (fun w =>
  s7_p5 K B1 B2 B3 t3 t6 t9 t16 t18 t19_5 t145_7 t25 t26 t27 t118 t119 t126 t127 t128 w) w) w) w)) w)) ∧
  (nw 61 #[(.int .i64 0), (.int .i64 0), (.int .i64 0), (.int .i64 0)] (fun t19_6 w =>
  Below w0.heap.size w0 w ∧
  (exq t143 0 (fun t144_6 w =>
  (exq t143 1 (fun t145_8 w =>
  stn 4 t19_6 t144_6 (fun w =>
  s7_p5 K B1 B2 B3 t3 t6 t9 t16 t18 t19_6 t145_8 t25 t26 t27 t118 t119 t126 t127 t128 w) w) w) ∧
  (stn 4 t19_6 t144_6 (fun w =>
  exq t143 1 (fun t145_9 w =>
  s7_p5 K B1 B2 B3 t3 t6 t9 t16 t18 t19_6 t145_9 t25 t26 t27 t118 t119 t126 t127 t128 w) w) w)) w) ∧
  (exq t143 1 (fun t145_10 w =>
  exq t143 0 (fun t144_7 w =>
  stn 4 t19_6 t144_7 (fun w =>
  s7_p5 K B1 B2 B3 t3 t6 t9 t16 t18 t19_6 t145_10 t25 t26 t27 t118 t119 t126 t127 t128 w) w) w) w)) w)) w) ∧
  (nw 61 #[(.int .i64 0), (.int .i64 0), (.int .i64 0), (.int .i64 0)] (fun t19_7 w =>
  Below w0.heap.size w0 w ∧
  cl Try.prog 26 #[t134, t16, t142] (fun t143_2 w =>
  (exq t143_2 0 (fun t144_8 w =>
  (exq t143_2 1 (fun t145_11 w =>
  stn 4 t19_7 t144_8 (fun w =>
  s7_p5 K B1 B2 B3 t3 t6 t9 t16 t18 t19_7 t145_11 t25 t26 t27 t118 t119 t126 t127 t128 w) w) w) ∧
  (stn 4 t19_7 t144_8 (fun w =>
  exq t143_2 1 (fun t145_12 w =>
  s7_p5 K B1 B2 B3 t3 t6 t9 t16 t18 t19_7 t145_12 t25 t26 t27 t118 t119 t126 t127 t128 w) w) w)) w) ∧
  (exq t143_2 1 (fun t145_13 w =>
  exq t143_2 0 (fun t144_9 w =>
  stn 4 t19_7 t144_9 (fun w =>
  s7_p5 K B1 B2 B3 t3 t6 t9 t16 t18 t19_7 t145_13 t25 t26 t27 t118 t119 t126 t127 t128 w) w) w) w)) w) w)) w0) w0) w0) w0) w0) w0
def s7_p6 (K : Value → World → Prop) (B1 : List Value → World → Prop) (B2 : List Value → World → Prop) (B3 : List Value → World → Prop) (t3 t6 t9 t16 t17 t18 t25 t26 t27 t118 t119 t126 t127 t128 : Value) (w : World) : Prop := s7_p6_d K B1 B2 B3 t3 t6 t9 t16 t17 t18 t25 t26 t27 t118 t119 t126 t127 t128 (drw w) (drw w)
def s7_p6_den (K : Value → World → Prop) (M1 : (Nat → Value) → World → Prop) (M2 : (Nat → Value) → World → Prop) (M3 : (Nat → Value) → World → Prop) : (Nat → Value) → World → Prop := denL Try.prog [(cd (Try.f7.body.getD .skip) [1, 1, 1, 0, 1, 0, 0, 1, 1, 0, 0, 1, 1, 1, 1, 1, 1, 1, 1, 0, 0, 1, 1, 0, 0, 1, 1, 0, 0, 1, 1, 0, 0, 1, 0])] (s7_p5_den K M1 M2 M3) (fun i => (bif Nat.beq i 9 then (s7_p4_den K M1 M2 M3) else (bif Nat.beq i 8 then (s7_p3_den K M1 M2) else (bif Nat.beq i 7 then (s7_p3_den K M1 M2) else (bif Nat.beq i 6 then (s7_p2_den K M1) else (bif Nat.beq i 1 then (s7_p2_den K M1) else (bif Nat.beq i 0 then (s7_p1_den K) else (fun _ _ => False)))))))) (s7_R K)
theorem s7_p6_ok (K : Value → World → Prop) (B1 : List Value → World → Prop) (B2 : List Value → World → Prop) (B3 : List Value → World → Prop) (s : Nat → Value) (w : World) (h : s7_p6 K B1 B2 B3 (s 3) (s 6) (s 9) (s 16) (s 17) (s 18) (s 25) (s 26) (s 27) (s 118) (s 119) (s 126) (s 127) (s 128) w) : Tr (s7_p6_den K (fun s w => B1 [s 3, s 25, s 26, s 27] w) (fun s w => B2 [s 3, s 6, s 9, s 25, s 26, s 27, s 118, s 119] w) (fun s w => B3 [s 3, s 6, s 9, s 16, s 25, s 26, s 27, s 118, s 119, s 126, s 127, s 128] w) s w) :=
  tr_draw (P := Try.prog) (ops := (ro (cd (Try.f7.body.getD .skip) [1, 1, 1, 0, 1, 0, 0, 1, 1, 0, 0, 1, 1, 1, 1, 1, 1, 1, 1, 0, 0, 1, 1, 0, 0, 1, 1, 0, 0, 1, 1, 0, 0, 1, 0]))) (ms := [0, 0, 0, 4, 0, 28, 60, 0, 252, 511, 1023, 2047, 2047, 0, 12287, 32767]) (cs := [0, 1, 2, 3, 4, 5, 6, 7, 8]) (N := (fun s w => s7_p5 K B1 B2 B3 (s 3) (s 6) (s 9) (s 16) (s 18) (s 19) (s 20) (s 25) (s 26) (s 27) (s 118) (s 119) (s 126) (s 127) (s 128) w)) (N' := (s7_p5_den K (fun s w => B1 [s 3, s 25, s 26, s 27] w) (fun s w => B2 [s 3, s 6, s 9, s 25, s 26, s 27, s 118, s 119] w) (fun s w => B3 [s 3, s 6, s 9, s 16, s 25, s 26, s 27, s 118, s 119, s 126, s 127, s 128] w))) (s := s) (w := w) (p := s7_p6 K B1 B2 B3 (s 3) (s 6) (s 9) (s 16) (s 17) (s 18) (s 25) (s 26) (s 27) (s 118) (s 119) (s 126) (s 127) (s 128) w) (q := s7_p6_den K (fun s w => B1 [s 3, s 25, s 26, s 27] w) (fun s w => B2 [s 3, s 6, s 9, s 25, s 26, s 27, s 118, s 119] w) (fun s w => B3 [s 3, s 6, s 9, s 16, s 25, s 26, s 27, s 118, s 119, s 126, s 127, s 128] w) s w) (by kernel_rfl) (by kernel_rfl) (fun s w h => s7_p5_ok K B1 B2 B3 s w @h) (by kernel_rfl) (by kernel_rfl) @h
def s7_p7 (K : Value → World → Prop) (B1 : List Value → World → Prop) (B2 : List Value → World → Prop) (B3 : List Value → World → Prop) (t3 t6 t9 t16 t25 t26 t27 t118 t119 t126 t127 t128 : Value) (w : World) : Prop :=
  ixs 4 t126 t128 (fun t131 w =>
  ldn 4 t131 (fun t132 w =>
  nw 61 #[(.int .i64 0), (.int .i64 0), (.int .i64 0), (.int .i64 0)] (fun t18 w =>
  stn 4 t18 t132 (fun w =>
  s7_p6 K B1 B2 B3 t3 t6 t9 t16 t128 t18 t25 t26 t27 t118 t119 t126 t127 t128 w) w) w) w) w
def s7_p7_den (K : Value → World → Prop) (M1 : (Nat → Value) → World → Prop) (M2 : (Nat → Value) → World → Prop) (M3 : (Nat → Value) → World → Prop) : (Nat → Value) → World → Prop := denL Try.prog [(cd (Try.f7.body.getD .skip) [1, 1, 1, 0, 1, 0, 0, 1, 1, 0, 0, 1, 1, 1, 1, 1, 1, 1, 1, 0, 0, 1, 1, 0, 0, 1, 1, 0, 0, 1, 1, 0, 0, 0])] (s7_p6_den K M1 M2 M3) (fun i => (bif Nat.beq i 9 then (s7_p4_den K M1 M2 M3) else (bif Nat.beq i 8 then (s7_p3_den K M1 M2) else (bif Nat.beq i 7 then (s7_p3_den K M1 M2) else (bif Nat.beq i 6 then (s7_p2_den K M1) else (bif Nat.beq i 1 then (s7_p2_den K M1) else (bif Nat.beq i 0 then (s7_p1_den K) else (fun _ _ => False)))))))) (s7_R K)
theorem s7_p7_ok (K : Value → World → Prop) (B1 : List Value → World → Prop) (B2 : List Value → World → Prop) (B3 : List Value → World → Prop) (s : Nat → Value) (w : World) (h : s7_p7 K B1 B2 B3 (s 3) (s 6) (s 9) (s 16) (s 25) (s 26) (s 27) (s 118) (s 119) (s 126) (s 127) (s 128) w) : Tr (s7_p7_den K (fun s w => B1 [s 3, s 25, s 26, s 27] w) (fun s w => B2 [s 3, s 6, s 9, s 25, s 26, s 27, s 118, s 119] w) (fun s w => B3 [s 3, s 6, s 9, s 16, s 25, s 26, s 27, s 118, s 119, s 126, s 127, s 128] w) s w) :=
  tr_simple (P := Try.prog) (codes := [(cd (Try.f7.body.getD .skip) [1, 1, 1, 0, 1, 0, 0, 1, 1, 0, 0, 1, 1, 1, 1, 1, 1, 1, 1, 0, 0, 1, 1, 0, 0, 1, 1, 0, 0, 1, 1, 0, 0, 0])]) (N := (fun s w => s7_p6 K B1 B2 B3 (s 3) (s 6) (s 9) (s 16) (s 17) (s 18) (s 25) (s 26) (s 27) (s 118) (s 119) (s 126) (s 127) (s 128) w)) (N' := (s7_p6_den K (fun s w => B1 [s 3, s 25, s 26, s 27] w) (fun s w => B2 [s 3, s 6, s 9, s 25, s 26, s 27, s 118, s 119] w) (fun s w => B3 [s 3, s 6, s 9, s 16, s 25, s 26, s 27, s 118, s 119, s 126, s 127, s 128] w))) (X := (fun i => (bif Nat.beq i 9 then (fun s w => s7_p4 K B1 B2 B3 (s 3) (s 6) (s 9) (s 16) (s 25) (s 26) (s 27) (s 118) (s 119) (s 126) (s 127) (s 128) w) else (bif Nat.beq i 8 then (fun s w => s7_p3 K B1 B2 (s 3) (s 6) (s 9) (s 25) (s 26) (s 27) (s 118) (s 119) w) else (bif Nat.beq i 7 then (fun s w => s7_p3 K B1 B2 (s 3) (s 6) (s 9) (s 25) (s 26) (s 27) (s 118) (s 119) w) else (bif Nat.beq i 6 then (fun s w => s7_p2 K B1 (s 3) (s 25) (s 26) (s 27) w) else (bif Nat.beq i 1 then (fun s w => s7_p2 K B1 (s 3) (s 25) (s 26) (s 27) w) else (bif Nat.beq i 0 then (fun s w => s7_p1 K w) else (fun _ _ => False))))))))) (X' := (fun i => (bif Nat.beq i 9 then (s7_p4_den K (fun s w => B1 [s 3, s 25, s 26, s 27] w) (fun s w => B2 [s 3, s 6, s 9, s 25, s 26, s 27, s 118, s 119] w) (fun s w => B3 [s 3, s 6, s 9, s 16, s 25, s 26, s 27, s 118, s 119, s 126, s 127, s 128] w)) else (bif Nat.beq i 8 then (s7_p3_den K (fun s w => B1 [s 3, s 25, s 26, s 27] w) (fun s w => B2 [s 3, s 6, s 9, s 25, s 26, s 27, s 118, s 119] w)) else (bif Nat.beq i 7 then (s7_p3_den K (fun s w => B1 [s 3, s 25, s 26, s 27] w) (fun s w => B2 [s 3, s 6, s 9, s 25, s 26, s 27, s 118, s 119] w)) else (bif Nat.beq i 6 then (s7_p2_den K (fun s w => B1 [s 3, s 25, s 26, s 27] w)) else (bif Nat.beq i 1 then (s7_p2_den K (fun s w => B1 [s 3, s 25, s 26, s 27] w)) else (bif Nat.beq i 0 then (s7_p1_den K) else (fun _ _ => False))))))))) (R := s7_R K) (s := s) (w := w) (p := s7_p7 K B1 B2 B3 (s 3) (s 6) (s 9) (s 16) (s 25) (s 26) (s 27) (s 118) (s 119) (s 126) (s 127) (s 128) w) (q := s7_p7_den K (fun s w => B1 [s 3, s 25, s 26, s 27] w) (fun s w => B2 [s 3, s 6, s 9, s 25, s 26, s 27, s 118, s 119] w) (fun s w => B3 [s 3, s 6, s 9, s 16, s 25, s 26, s 27, s 118, s 119, s 126, s 127, s 128] w) s w) (fun s w h => s7_p6_ok K B1 B2 B3 s w @h) (fun i => (tr_bif (fun s w h => s7_p4_ok K B1 B2 B3 s w @h) (tr_bif (fun s w h => s7_p3_ok K B1 B2 s w @h) (tr_bif (fun s w h => s7_p3_ok K B1 B2 s w @h) (tr_bif (fun s w h => s7_p2_ok K B1 s w @h) (tr_bif (fun s w h => s7_p2_ok K B1 s w @h) (tr_bif (fun s w h => s7_p1_ok K s w @h) tr_id))))))) (by kernel_rfl) (by kernel_rfl) @h
def s7_p8 (K : Value → World → Prop) (B1 : List Value → World → Prop) (B2 : List Value → World → Prop) (B3 : List Value → World → Prop) (t3 t6 t9 t16 t25 t26 t27 t118 t119 t126 t127 t128 : Value) (w : World) : Prop :=
  boI .lss t128 t127 (fun t129 w =>
  ifb t129
  (s7_p7 K B1 B2 B3 t3 t6 t9 t16 t25 t26 t27 t118 t119 t126 t127 t128 w)
  (s7_p3 K B1 B2 t3 t6 t9 t25 t26 t27 t118 t119 w)) w
def s7_p8_den (K : Value → World → Prop) (M1 : (Nat → Value) → World → Prop) (M2 : (Nat → Value) → World → Prop) (M3 : (Nat → Value) → World → Prop) : (Nat → Value) → World → Prop := denL Try.prog [(cd (Try.f7.body.getD .skip) [1, 1, 1, 0, 1, 0, 0, 1, 1, 0, 0, 1, 1, 1, 1, 1, 1, 1, 1, 0, 0, 1, 1, 0, 0, 1, 1, 0, 0, 0]), (cd (Try.f7.body.getD .skip) [1, 1, 1, 0, 1, 0, 0, 1, 1, 0, 0, 1, 1, 1, 1, 1, 1, 1, 1, 0, 0, 1, 1, 0, 0, 1, 1, 0, 0, 1, 0])] (s7_p7_den K M1 M2 M3) (fun i => (bif Nat.beq i 8 then (s7_p3_den K M1 M2) else (bif Nat.beq i 7 then (s7_p3_den K M1 M2) else (bif Nat.beq i 6 then (s7_p2_den K M1) else (bif Nat.beq i 1 then (s7_p2_den K M1) else (bif Nat.beq i 0 then (s7_p1_den K) else (fun _ _ => False))))))) (s7_R K)
theorem s7_p8_ok (K : Value → World → Prop) (B1 : List Value → World → Prop) (B2 : List Value → World → Prop) (B3 : List Value → World → Prop) (s : Nat → Value) (w : World) (h : s7_p8 K B1 B2 B3 (s 3) (s 6) (s 9) (s 16) (s 25) (s 26) (s 27) (s 118) (s 119) (s 126) (s 127) (s 128) w) : Tr (s7_p8_den K (fun s w => B1 [s 3, s 25, s 26, s 27] w) (fun s w => B2 [s 3, s 6, s 9, s 25, s 26, s 27, s 118, s 119] w) (fun s w => B3 [s 3, s 6, s 9, s 16, s 25, s 26, s 27, s 118, s 119, s 126, s 127, s 128] w) s w) :=
  tr_simple (P := Try.prog) (codes := [(cd (Try.f7.body.getD .skip) [1, 1, 1, 0, 1, 0, 0, 1, 1, 0, 0, 1, 1, 1, 1, 1, 1, 1, 1, 0, 0, 1, 1, 0, 0, 1, 1, 0, 0, 0]), (cd (Try.f7.body.getD .skip) [1, 1, 1, 0, 1, 0, 0, 1, 1, 0, 0, 1, 1, 1, 1, 1, 1, 1, 1, 0, 0, 1, 1, 0, 0, 1, 1, 0, 0, 1, 0])]) (N := (fun s w => s7_p7 K B1 B2 B3 (s 3) (s 6) (s 9) (s 16) (s 25) (s 26) (s 27) (s 118) (s 119) (s 126) (s 127) (s 128) w)) (N' := (s7_p7_den K (fun s w => B1 [s 3, s 25, s 26, s 27] w) (fun s w => B2 [s 3, s 6, s 9, s 25, s 26, s 27, s 118, s 119] w) (fun s w => B3 [s 3, s 6, s 9, s 16, s 25, s 26, s 27, s 118, s 119, s 126, s 127, s 128] w))) (X := (fun i => (bif Nat.beq i 8 then (fun s w => s7_p3 K B1 B2 (s 3) (s 6) (s 9) (s 25) (s 26) (s 27) (s 118) (s 119) w) else (bif Nat.beq i 7 then (fun s w => s7_p3 K B1 B2 (s 3) (s 6) (s 9) (s 25) (s 26) (s 27) (s 118) (s 119) w) else (bif Nat.beq i 6 then (fun s w => s7_p2 K B1 (s 3) (s 25) (s 26) (s 27) w) else (bif Nat.beq i 1 then (fun s w => s7_p2 K B1 (s 3) (s 25) (s 26) (s 27) w) else (bif Nat.beq i 0 then (fun s w => s7_p1 K w) else (fun _ _ => False)))))))) (X' := (fun i => (bif Nat.beq i 8 then (s7_p3_den K (fun s w => B1 [s 3, s 25, s 26, s 27] w) (fun s w => B2 [s 3, s 6, s 9, s 25, s 26, s 27, s 118, s 119] w)) else (bif Nat.beq i 7 then (s7_p3_den K (fun s w => B1 [s 3, s 25, s 26, s 27] w) (fun s w => B2 [s 3, s 6, s 9, s 25, s 26, s 27, s 118, s 119] w)) else (bif Nat.beq i 6 then (s7_p2_den K (fun s w => B1 [s 3, s 25, s 26, s 27] w)) else (bif Nat.beq i 1 then (s7_p2_den K (fun s w => B1 [s 3, s 25, s 26, s 27] w)) else (bif Nat.beq i 0 then (s7_p1_den K) else (fun _ _ => False)))))))) (R := s7_R K) (s := s) (w := w) (p := s7_p8 K B1 B2 B3 (s 3) (s 6) (s 9) (s 16) (s 25) (s 26) (s 27) (s 118) (s 119) (s 126) (s 127) (s 128) w) (q := s7_p8_den K (fun s w => B1 [s 3, s 25, s 26, s 27] w) (fun s w => B2 [s 3, s 6, s 9, s 25, s 26, s 27, s 118, s 119] w) (fun s w => B3 [s 3, s 6, s 9, s 16, s 25, s 26, s 27, s 118, s 119, s 126, s 127, s 128] w) s w) (fun s w h => s7_p7_ok K B1 B2 B3 s w @h) (fun i => (tr_bif (fun s w h => s7_p3_ok K B1 B2 s w @h) (tr_bif (fun s w h => s7_p3_ok K B1 B2 s w @h) (tr_bif (fun s w h => s7_p2_ok K B1 s w @h) (tr_bif (fun s w h => s7_p2_ok K B1 s w @h) (tr_bif (fun s w h => s7_p1_ok K s w @h) tr_id)))))) (by kernel_rfl) (by kernel_rfl) @h
def s7_p9_F (K : Value → World → Prop) (B1 : List Value → World → Prop) (B2 : List Value → World → Prop) (B3 : List Value → World → Prop) (l : List Value) (w : World) : Prop :=
  match l with
  | [t3, t6, t9, t16, t25, t26, t27, t118, t119, t126, t127, t128] => s7_p8 K B1 B2 B3 t3 t6 t9 t16 t25 t26 t27 t118 t119 t126 t127 t128 w
  | _ => False
theorem s7_p9_Fe {K : Value → World → Prop} {B1 : List Value → World → Prop} {B2 : List Value → World → Prop} {B3 : List Value → World → Prop} {t3 t6 t9 t16 t25 t26 t27 t118 t119 t126 t127 t128 : Value} {w : World} : s7_p9_F K B1 B2 B3 [t3, t6, t9, t16, t25, t26, t27, t118, t119, t126, t127, t128] w = s7_p8 K B1 B2 B3 t3 t6 t9 t16 t25 t26 t27 t118 t119 t126 t127 t128 w := by kernel_rfl
def s7_p9 (K : Value → World → Prop) (B1 : List Value → World → Prop) (B2 : List Value → World → Prop) (t3 t6 t9 t16 t25 t26 t27 t118 t119 t126 t127 t128 : Value) (w : World) : Prop :=
  LoopL (s7_p9_F K B1 B2) [t3, t6, t9, t16, t25, t26, t27, t118, t119, t126, t127, t128] w
def s7_p9_den (K : Value → World → Prop) (M1 : (Nat → Value) → World → Prop) (M2 : (Nat → Value) → World → Prop) : (Nat → Value) → World → Prop := fun s w => LoopP (fun M3 s w => s7_p8_den K M1 M2 M3 s w) s w
theorem s7_p9_ok (K : Value → World → Prop) (B1 : List Value → World → Prop) (B2 : List Value → World → Prop) (s : Nat → Value) (w : World) (h : s7_p9 K B1 B2 (s 3) (s 6) (s 9) (s 16) (s 25) (s 26) (s 27) (s 118) (s 119) (s 126) (s 127) (s 128) w) : Tr (s7_p9_den K (fun s w => B1 [s 3, s 25, s 26, s 27] w) (fun s w => B2 [s 3, s 6, s 9, s 25, s 26, s 27, s 118, s 119] w) s w) :=
  tr_loop (G := fun N' s w => s7_p8_den K (fun s w => B1 [s 3, s 25, s 26, s 27] w) (fun s w => B2 [s 3, s 6, s 9, s 25, s 26, s 27, s 118, s 119] w) N' s w) (F := s7_p9_F K B1 B2) (sel := fun s => [s 3, s 6, s 9, s 16, s 25, s 26, s 27, s 118, s 119, s 126, s 127, s 128]) (s := s) (w := w) (p := s7_p9 K B1 B2 (s 3) (s 6) (s 9) (s 16) (s 25) (s 26) (s 27) (s 118) (s 119) (s 126) (s 127) (s 128) w) (q := s7_p9_den K (fun s w => B1 [s 3, s 25, s 26, s 27] w) (fun s w => B2 [s 3, s 6, s 9, s 25, s 26, s 27, s 118, s 119] w) s w) (fun B s w h => s7_p8_ok K B1 B2 B s w @h) (by kernel_rfl) (by kernel_rfl) @h
def s7_p10 (K : Value → World → Prop) (B1 : List Value → World → Prop) (B2 : List Value → World → Prop) (t3 t6 t9 t25 t26 t27 t118 t119 : Value) (w : World) : Prop :=
  fd 3 t9 (fun t122 w =>
  ld1 t122 (fun t123 w =>
  ixs 1 t123 t119 (fun t125 w =>
  ld1 t125 (fun t126 w =>
  lnS t126 (fun t127 w =>
  s7_p9 K B1 B2 t3 t6 t9 t119 t25 t26 t27 t118 t119 t126 t127 (.int .i64 0) w) w) w) w) w) w
def s7_p10_den (K : Value → World → Prop) (M1 : (Nat → Value) → World → Prop) (M2 : (Nat → Value) → World → Prop) : (Nat → Value) → World → Prop := denL Try.prog [(cd (Try.f7.body.getD .skip) [1, 1, 1, 0, 1, 0, 0, 1, 1, 0, 0, 1, 1, 1, 1, 1, 1, 1, 1, 0, 0, 1, 1, 0, 0, 0]), (cd (Try.f7.body.getD .skip) [1, 1, 1, 0, 1, 0, 0, 1, 1, 0, 0, 1, 1, 1, 1, 1, 1, 1, 1, 0, 0, 1, 1, 0, 0, 1, 0])] (s7_p9_den K M1 M2) (fun i => (bif Nat.beq i 7 then (s7_p3_den K M1 M2) else (bif Nat.beq i 6 then (s7_p2_den K M1) else (bif Nat.beq i 1 then (s7_p2_den K M1) else (bif Nat.beq i 0 then (s7_p1_den K) else (fun _ _ => False)))))) (s7_R K)
theorem s7_p10_ok (K : Value → World → Prop) (B1 : List Value → World → Prop) (B2 : List Value → World → Prop) (s : Nat → Value) (w : World) (h : s7_p10 K B1 B2 (s 3) (s 6) (s 9) (s 25) (s 26) (s 27) (s 118) (s 119) w) : Tr (s7_p10_den K (fun s w => B1 [s 3, s 25, s 26, s 27] w) (fun s w => B2 [s 3, s 6, s 9, s 25, s 26, s 27, s 118, s 119] w) s w) :=
  tr_simple (P := Try.prog) (codes := [(cd (Try.f7.body.getD .skip) [1, 1, 1, 0, 1, 0, 0, 1, 1, 0, 0, 1, 1, 1, 1, 1, 1, 1, 1, 0, 0, 1, 1, 0, 0, 0]), (cd (Try.f7.body.getD .skip) [1, 1, 1, 0, 1, 0, 0, 1, 1, 0, 0, 1, 1, 1, 1, 1, 1, 1, 1, 0, 0, 1, 1, 0, 0, 1, 0])]) (N := (fun s w => s7_p9 K B1 B2 (s 3) (s 6) (s 9) (s 16) (s 25) (s 26) (s 27) (s 118) (s 119) (s 126) (s 127) (s 128) w)) (N' := (s7_p9_den K (fun s w => B1 [s 3, s 25, s 26, s 27] w) (fun s w => B2 [s 3, s 6, s 9, s 25, s 26, s 27, s 118, s 119] w))) (X := (fun i => (bif Nat.beq i 7 then (fun s w => s7_p3 K B1 B2 (s 3) (s 6) (s 9) (s 25) (s 26) (s 27) (s 118) (s 119) w) else (bif Nat.beq i 6 then (fun s w => s7_p2 K B1 (s 3) (s 25) (s 26) (s 27) w) else (bif Nat.beq i 1 then (fun s w => s7_p2 K B1 (s 3) (s 25) (s 26) (s 27) w) else (bif Nat.beq i 0 then (fun s w => s7_p1 K w) else (fun _ _ => False))))))) (X' := (fun i => (bif Nat.beq i 7 then (s7_p3_den K (fun s w => B1 [s 3, s 25, s 26, s 27] w) (fun s w => B2 [s 3, s 6, s 9, s 25, s 26, s 27, s 118, s 119] w)) else (bif Nat.beq i 6 then (s7_p2_den K (fun s w => B1 [s 3, s 25, s 26, s 27] w)) else (bif Nat.beq i 1 then (s7_p2_den K (fun s w => B1 [s 3, s 25, s 26, s 27] w)) else (bif Nat.beq i 0 then (s7_p1_den K) else (fun _ _ => False))))))) (R := s7_R K) (s := s) (w := w) (p := s7_p10 K B1 B2 (s 3) (s 6) (s 9) (s 25) (s 26) (s 27) (s 118) (s 119) w) (q := s7_p10_den K (fun s w => B1 [s 3, s 25, s 26, s 27] w) (fun s w => B2 [s 3, s 6, s 9, s 25, s 26, s 27, s 118, s 119] w) s w) (fun s w h => s7_p9_ok K B1 B2 s w @h) (fun i => (tr_bif (fun s w h => s7_p3_ok K B1 B2 s w @h) (tr_bif (fun s w h => s7_p2_ok K B1 s w @h) (tr_bif (fun s w h => s7_p2_ok K B1 s w @h) (tr_bif (fun s w h => s7_p1_ok K s w @h) tr_id))))) (by kernel_rfl) (by kernel_rfl) @h
def s7_p11 (K : Value → World → Prop) (B1 : List Value → World → Prop) (B2 : List Value → World → Prop) (t3 t6 t9 t25 t26 t27 t118 t119 : Value) (w : World) : Prop :=
  boI .lss t119 t118 (fun t120 w =>
  ifb t120
  (s7_p10 K B1 B2 t3 t6 t9 t25 t26 t27 t118 t119 w)
  (s7_p2 K B1 t3 t25 t26 t27 w)) w
def s7_p11_den (K : Value → World → Prop) (M1 : (Nat → Value) → World → Prop) (M2 : (Nat → Value) → World → Prop) : (Nat → Value) → World → Prop := denL Try.prog [(cd (Try.f7.body.getD .skip) [1, 1, 1, 0, 1, 0, 0, 1, 1, 0, 0, 1, 1, 1, 1, 1, 1, 1, 1, 0, 0, 0]), (cd (Try.f7.body.getD .skip) [1, 1, 1, 0, 1, 0, 0, 1, 1, 0, 0, 1, 1, 1, 1, 1, 1, 1, 1, 0, 0, 1, 0])] (s7_p10_den K M1 M2) (fun i => (bif Nat.beq i 6 then (s7_p2_den K M1) else (bif Nat.beq i 1 then (s7_p2_den K M1) else (bif Nat.beq i 0 then (s7_p1_den K) else (fun _ _ => False))))) (s7_R K)
theorem s7_p11_ok (K : Value → World → Prop) (B1 : List Value → World → Prop) (B2 : List Value → World → Prop) (s : Nat → Value) (w : World) (h : s7_p11 K B1 B2 (s 3) (s 6) (s 9) (s 25) (s 26) (s 27) (s 118) (s 119) w) : Tr (s7_p11_den K (fun s w => B1 [s 3, s 25, s 26, s 27] w) (fun s w => B2 [s 3, s 6, s 9, s 25, s 26, s 27, s 118, s 119] w) s w) :=
  tr_simple (P := Try.prog) (codes := [(cd (Try.f7.body.getD .skip) [1, 1, 1, 0, 1, 0, 0, 1, 1, 0, 0, 1, 1, 1, 1, 1, 1, 1, 1, 0, 0, 0]), (cd (Try.f7.body.getD .skip) [1, 1, 1, 0, 1, 0, 0, 1, 1, 0, 0, 1, 1, 1, 1, 1, 1, 1, 1, 0, 0, 1, 0])]) (N := (fun s w => s7_p10 K B1 B2 (s 3) (s 6) (s 9) (s 25) (s 26) (s 27) (s 118) (s 119) w)) (N' := (s7_p10_den K (fun s w => B1 [s 3, s 25, s 26, s 27] w) (fun s w => B2 [s 3, s 6, s 9, s 25, s 26, s 27, s 118, s 119] w))) (X := (fun i => (bif Nat.beq i 6 then (fun s w => s7_p2 K B1 (s 3) (s 25) (s 26) (s 27) w) else (bif Nat.beq i 1 then (fun s w => s7_p2 K B1 (s 3) (s 25) (s 26) (s 27) w) else (bif Nat.beq i 0 then (fun s w => s7_p1 K w) else (fun _ _ => False)))))) (X' := (fun i => (bif Nat.beq i 6 then (s7_p2_den K (fun s w => B1 [s 3, s 25, s 26, s 27] w)) else (bif Nat.beq i 1 then (s7_p2_den K (fun s w => B1 [s 3, s 25, s 26, s 27] w)) else (bif Nat.beq i 0 then (s7_p1_den K) else (fun _ _ => False)))))) (R := s7_R K) (s := s) (w := w) (p := s7_p11 K B1 B2 (s 3) (s 6) (s 9) (s 25) (s 26) (s 27) (s 118) (s 119) w) (q := s7_p11_den K (fun s w => B1 [s 3, s 25, s 26, s 27] w) (fun s w => B2 [s 3, s 6, s 9, s 25, s 26, s 27, s 118, s 119] w) s w) (fun s w h => s7_p10_ok K B1 B2 s w @h) (fun i => (tr_bif (fun s w h => s7_p2_ok K B1 s w @h) (tr_bif (fun s w h => s7_p2_ok K B1 s w @h) (tr_bif (fun s w h => s7_p1_ok K s w @h) tr_id)))) (by kernel_rfl) (by kernel_rfl) @h
def s7_p12_F (K : Value → World → Prop) (B1 : List Value → World → Prop) (B2 : List Value → World → Prop) (l : List Value) (w : World) : Prop :=
  match l with
  | [t3, t6, t9, t25, t26, t27, t118, t119] => s7_p11 K B1 B2 t3 t6 t9 t25 t26 t27 t118 t119 w
  | _ => False
theorem s7_p12_Fe {K : Value → World → Prop} {B1 : List Value → World → Prop} {B2 : List Value → World → Prop} {t3 t6 t9 t25 t26 t27 t118 t119 : Value} {w : World} : s7_p12_F K B1 B2 [t3, t6, t9, t25, t26, t27, t118, t119] w = s7_p11 K B1 B2 t3 t6 t9 t25 t26 t27 t118 t119 w := by kernel_rfl
def s7_p12 (K : Value → World → Prop) (B1 : List Value → World → Prop) (t3 t6 t9 t25 t26 t27 t118 t119 : Value) (w : World) : Prop :=
  LoopL (s7_p12_F K B1) [t3, t6, t9, t25, t26, t27, t118, t119] w
def s7_p12_den (K : Value → World → Prop) (M1 : (Nat → Value) → World → Prop) : (Nat → Value) → World → Prop := fun s w => LoopP (fun M2 s w => s7_p11_den K M1 M2 s w) s w
theorem s7_p12_ok (K : Value → World → Prop) (B1 : List Value → World → Prop) (s : Nat → Value) (w : World) (h : s7_p12 K B1 (s 3) (s 6) (s 9) (s 25) (s 26) (s 27) (s 118) (s 119) w) : Tr (s7_p12_den K (fun s w => B1 [s 3, s 25, s 26, s 27] w) s w) :=
  tr_loop (G := fun N' s w => s7_p11_den K (fun s w => B1 [s 3, s 25, s 26, s 27] w) N' s w) (F := s7_p12_F K B1) (sel := fun s => [s 3, s 6, s 9, s 25, s 26, s 27, s 118, s 119]) (s := s) (w := w) (p := s7_p12 K B1 (s 3) (s 6) (s 9) (s 25) (s 26) (s 27) (s 118) (s 119) w) (q := s7_p12_den K (fun s w => B1 [s 3, s 25, s 26, s 27] w) s w) (fun B s w h => s7_p11_ok K B1 B s w @h) (by kernel_rfl) (by kernel_rfl) @h
def s7_p13 (K : Value → World → Prop) (B1 : List Value → World → Prop) (t3 t5 t6 t7 t9 t25 t26 t27 : Value) (w : World) : Prop :=
  fd 0 t5 (fun t101 w =>
  ld1 t101 (fun t102 w =>
  boI .neq t102 (.int .i64 2) (fun t103 w =>
  gd t103 false (fun K w => K t7 w) (fun t105 w =>
  gd t103 false (boI .neq t105 (.int .i64 0)) (fun t106 w =>
  pk t103 (.bool true) t106 (fun t107 w =>
  ifb t107
  (s7_p2 K B1 t3 t25 t26 t27 w)
  (fd 1 t9 (fun t108 w =>
  ld1 t108 (fun t109 w =>
  fd 1 t6 (fun t110 w =>
  ld1 t110 (fun t111 w =>
  fd 5 t5 (fun t112 w =>
  ld1 t112 (fun t113 w =>
  boI .add t111 t113 (fun t114 w =>
  boI .neq t109 t114 (fun t115 w =>
  ifb t115
  (K (.bool false) w)
  (fd 3 t9 (fun t116 w =>
  ld1 t116 (fun t117 w =>
  lnS t117 (fun t118 w =>
  s7_p12 K B1 t3 t6 t9 t25 t26 t27 t118 (.int .i64 0) w) w) w) w)) w) w) w) w) w) w) w) w)) w) w) w) w) w) w
def s7_p13_den (K : Value → World → Prop) (M1 : (Nat → Value) → World → Prop) : (Nat → Value) → World → Prop := denL Try.prog [(cd (Try.f7.body.getD .skip) [1, 1, 1, 0, 1, 0, 0, 1, 1, 0, 0, 1, 1, 1, 1, 1, 0, 0]), (cd (Try.f7.body.getD .skip) [1, 1, 1, 0, 1, 0, 0, 1, 1, 0, 0, 1, 1, 1, 1, 1, 0, 1]), (cd (Try.f7.body.getD .skip) [1, 1, 1, 0, 1, 0, 0, 1, 1, 0, 0, 1, 1, 1, 1, 1, 1, 0, 0]), (cd (Try.f7.body.getD .skip) [1, 1, 1, 0, 1, 0, 0, 1, 1, 0, 0, 1, 1, 1, 1, 1, 1, 0, 1]), (cd (Try.f7.body.getD .skip) [1, 1, 1, 0, 1, 0, 0, 1, 1, 0, 0, 1, 1, 1, 1, 1, 1, 1, 0])] (s7_p12_den K M1) (fun i => (bif Nat.beq i 1 then (s7_p2_den K M1) else (bif Nat.beq i 0 then (s7_p1_den K) else (fun _ _ => False)))) (s7_R K)
theorem s7_p13_ok (K : Value → World → Prop) (B1 : List Value → World → Prop) (s : Nat → Value) (w : World) (h : s7_p13 K B1 (s 3) (s 5) (s 6) (s 7) (s 9) (s 25) (s 26) (s 27) w) : Tr (s7_p13_den K (fun s w => B1 [s 3, s 25, s 26, s 27] w) s w) :=
  tr_simple (P := Try.prog) (codes := [(cd (Try.f7.body.getD .skip) [1, 1, 1, 0, 1, 0, 0, 1, 1, 0, 0, 1, 1, 1, 1, 1, 0, 0]), (cd (Try.f7.body.getD .skip) [1, 1, 1, 0, 1, 0, 0, 1, 1, 0, 0, 1, 1, 1, 1, 1, 0, 1]), (cd (Try.f7.body.getD .skip) [1, 1, 1, 0, 1, 0, 0, 1, 1, 0, 0, 1, 1, 1, 1, 1, 1, 0, 0]), (cd (Try.f7.body.getD .skip) [1, 1, 1, 0, 1, 0, 0, 1, 1, 0, 0, 1, 1, 1, 1, 1, 1, 0, 1]), (cd (Try.f7.body.getD .skip) [1, 1, 1, 0, 1, 0, 0, 1, 1, 0, 0, 1, 1, 1, 1, 1, 1, 1, 0])]) (N := (fun s w => s7_p12 K B1 (s 3) (s 6) (s 9) (s 25) (s 26) (s 27) (s 118) (s 119) w)) (N' := (s7_p12_den K (fun s w => B1 [s 3, s 25, s 26, s 27] w))) (X := (fun i => (bif Nat.beq i 1 then (fun s w => s7_p2 K B1 (s 3) (s 25) (s 26) (s 27) w) else (bif Nat.beq i 0 then (fun s w => s7_p1 K w) else (fun _ _ => False))))) (X' := (fun i => (bif Nat.beq i 1 then (s7_p2_den K (fun s w => B1 [s 3, s 25, s 26, s 27] w)) else (bif Nat.beq i 0 then (s7_p1_den K) else (fun _ _ => False))))) (R := s7_R K) (s := s) (w := w) (p := s7_p13 K B1 (s 3) (s 5) (s 6) (s 7) (s 9) (s 25) (s 26) (s 27) w) (q := s7_p13_den K (fun s w => B1 [s 3, s 25, s 26, s 27] w) s w) (fun s w h => s7_p12_ok K B1 s w @h) (fun i => (tr_bif (fun s w h => s7_p2_ok K B1 s w @h) (tr_bif (fun s w h => s7_p1_ok K s w @h) tr_id))) (by kernel_rfl) (by kernel_rfl) @h
def s7_p14 (K : Value → World → Prop) (B1 : List Value → World → Prop) (B2 : List Value → World → Prop) (t3 t5 t6 t7 t9 t25 t26 t27 t43 t44 : Value) (w : World) : Prop :=
  boI .add t44 (.int .i64 1) (fun t100 w =>
  B2 [t3, t5, t6, t7, t9, t25, t26, t27, t43, t100] w) w
def s7_p14_den (K : Value → World → Prop) (M1 : (Nat → Value) → World → Prop) (M2 : (Nat → Value) → World → Prop) : (Nat → Value) → World → Prop := denL Try.prog [(cd (Try.f7.body.getD .skip) [1, 1, 1, 0, 1, 0, 0, 1, 1, 0, 0, 1, 1, 1, 1, 0, 1, 0, 0, 1, 1, 1])] M2 (fun i => (bif Nat.beq i 2 then (s7_p13_den K M1) else (bif Nat.beq i 1 then (s7_p2_den K M1) else (bif Nat.beq i 0 then (s7_p1_den K) else (fun _ _ => False))))) (s7_R K)
theorem s7_p14_ok (K : Value → World → Prop) (B1 : List Value → World → Prop) (B2 : List Value → World → Prop) (s : Nat → Value) (w : World) (h : s7_p14 K B1 B2 (s 3) (s 5) (s 6) (s 7) (s 9) (s 25) (s 26) (s 27) (s 43) (s 44) w) : Tr (s7_p14_den K (fun s w => B1 [s 3, s 25, s 26, s 27] w) (fun s w => B2 [s 3, s 5, s 6, s 7, s 9, s 25, s 26, s 27, s 43, s 44] w) s w) :=
  tr_simple (P := Try.prog) (codes := [(cd (Try.f7.body.getD .skip) [1, 1, 1, 0, 1, 0, 0, 1, 1, 0, 0, 1, 1, 1, 1, 0, 1, 0, 0, 1, 1, 1])]) (N := (fun s w => B2 [s 3, s 5, s 6, s 7, s 9, s 25, s 26, s 27, s 43, s 44] w)) (N' := (fun s w => B2 [s 3, s 5, s 6, s 7, s 9, s 25, s 26, s 27, s 43, s 44] w)) (X := (fun i => (bif Nat.beq i 2 then (fun s w => s7_p13 K B1 (s 3) (s 5) (s 6) (s 7) (s 9) (s 25) (s 26) (s 27) w) else (bif Nat.beq i 1 then (fun s w => s7_p2 K B1 (s 3) (s 25) (s 26) (s 27) w) else (bif Nat.beq i 0 then (fun s w => s7_p1 K w) else (fun _ _ => False)))))) (X' := (fun i => (bif Nat.beq i 2 then (s7_p13_den K (fun s w => B1 [s 3, s 25, s 26, s 27] w)) else (bif Nat.beq i 1 then (s7_p2_den K (fun s w => B1 [s 3, s 25, s 26, s 27] w)) else (bif Nat.beq i 0 then (s7_p1_den K) else (fun _ _ => False)))))) (R := s7_R K) (s := s) (w := w) (p := s7_p14 K B1 B2 (s 3) (s 5) (s 6) (s 7) (s 9) (s 25) (s 26) (s 27) (s 43) (s 44) w) (q := s7_p14_den K (fun s w => B1 [s 3, s 25, s 26, s 27] w) (fun s w => B2 [s 3, s 5, s 6, s 7, s 9, s 25, s 26, s 27, s 43, s 44] w) s w) tr_id (fun i => (tr_bif (fun s w h => s7_p13_ok K B1 s w @h) (tr_bif (fun s w h => s7_p2_ok K B1 s w @h) (tr_bif (fun s w h => s7_p1_ok K s w @h) tr_id)))) (by kernel_rfl) (by kernel_rfl) @h
def s7_p15 (K : Value → World → Prop) (B1 : List Value → World → Prop) (B2 : List Value → World → Prop) (B3 : List Value → World → Prop) (t3 t5 t6 t7 t9 t10 t11 t25 t26 t27 t43 t44 t53 t54 : Value) (w : World) : Prop :=
  boI .lss t54 t53 (fun t55 w =>
  ifb t55
  (fd 2 t9 (fun t60 w =>
  ld1 t60 (fun t61 w =>
  ixs 1 t61 t10 (fun t63 w =>
  ld1 t63 (fun t64 w =>
  boI .add t64 t54 (fun t66 w =>
  cl Try.prog 30 #[t3, t10, t66] (fun t67 w =>
  exq t67 0 (fun t68 w =>
  exq t67 1 (fun t69 w =>
  exq t67 2 (fun t70 w =>
  boF true .neq t70 .nilIface (fun t72 w =>
  gd t72 false (fun K w => K t68 w) (fun t74 w =>
  gd t72 false (boI .lss t74 (.int .i64 0)) (fun t75 w =>
  pk t72 (.bool true) t75 (fun t76 w =>
  gd t76 false (fun K w => K t68 w) (fun t78 w =>
  gd t76 false (fun K w => K t69 w) (fun t79 w =>
  gd t76 false (boI .geq t78 t79) (fun t80 w =>
  pk t76 (.bool true) t80 (fun t81 w =>
  gd t81 false (fun K w => K t11 w) (fun t83 w =>
  gd t81 false (fun K w => K t68 w) (fun t84 w =>
  gd t81 false (rs Try.prog (Instr.lookup 66 t83 t84 false)) (fun t85 w =>
  pk t81 (.bool true) t85 (fun t86 w =>
  gd t86 false (fun K w => K t69 w) (fun t88 w =>
  gd t86 false (fd 3 t9) (fun t89 w =>
  gd t86 false (ld1 t89) (fun t90 w =>
  gd t86 false (fun K w => K t10 w) (fun t91 w =>
  gd t86 false (ixs 1 t90 t91) (fun t92 w =>
  gd t86 false (ld1 t92) (fun t93 w =>
  gd t86 false (lnS t93) (fun t94 w =>
  gd t86 false (boI .neq t88 t94) (fun t95 w =>
  pk t86 (.bool true) t95 (fun t96 w =>
  ifb t96
  (K (.bool false) w)
  (ru Try.prog (Instr.mapUpdate 66 t11 t68 (.bool true)) (fun w =>
  boI .add t54 (.int .i64 1) (fun t99 w =>
  B3 [t3, t5, t6, t7, t9, t10, t11, t25, t26, t27, t43, t44, t53, t99] w) w) w)) w) w) w) w) w) w) w) w) w) w) w) w) w) w) w) w) w) w) w) w) w) w) w) w) w) w) w) w) w) w)
  (s7_p14 K B1 B2 t3 t5 t6 t7 t9 t25 t26 t27 t43 t44 w)) w
def s7_p15_den (K : Value → World → Prop) (M1 : (Nat → Value) → World → Prop) (M2 : (Nat → Value) → World → Prop) (M3 : (Nat → Value) → World → Prop) : (Nat → Value) → World → Prop := denL Try.prog [(cd (Try.f7.body.getD .skip) [1, 1, 1, 0, 1, 0, 0, 1, 1, 0, 0, 1, 1, 1, 1, 0, 1, 0, 0, 1, 1, 0, 0, 1, 1, 1, 0, 0, 0]), (cd (Try.f7.body.getD .skip) [1, 1, 1, 0, 1, 0, 0, 1, 1, 0, 0, 1, 1, 1, 1, 0, 1, 0, 0, 1, 1, 0, 0, 1, 1, 1, 0, 0, 1, 0]), (cd (Try.f7.body.getD .skip) [1, 1, 1, 0, 1, 0, 0, 1, 1, 0, 0, 1, 1, 1, 1, 0, 1, 0, 0, 1, 1, 0, 0, 1, 1, 1, 0, 0, 1, 1, 0]), (cd (Try.f7.body.getD .skip) [1, 1, 1, 0, 1, 0, 0, 1, 1, 0, 0, 1, 1, 1, 1, 0, 1, 0, 0, 1, 1, 0, 0, 1, 1, 1, 0, 0, 1, 1, 1])] M3 (fun i => (bif Nat.beq i 4 then (s7_p14_den K M1 M2) else (bif Nat.beq i 3 then (s7_p14_den K M1 M2) else (bif Nat.beq i 2 then (s7_p13_den K M1) else (bif Nat.beq i 1 then (s7_p2_den K M1) else (bif Nat.beq i 0 then (s7_p1_den K) else (fun _ _ => False))))))) (s7_R K)
theorem s7_p15_ok (K : Value → World → Prop) (B1 : List Value → World → Prop) (B2 : List Value → World → Prop) (B3 : List Value → World → Prop) (s : Nat → Value) (w : World) (h : s7_p15 K B1 B2 B3 (s 3) (s 5) (s 6) (s 7) (s 9) (s 10) (s 11) (s 25) (s 26) (s 27) (s 43) (s 44) (s 53) (s 54) w) : Tr (s7_p15_den K (fun s w => B1 [s 3, s 25, s 26, s 27] w) (fun s w => B2 [s 3, s 5, s 6, s 7, s 9, s 25, s 26, s 27, s 43, s 44] w) (fun s w => B3 [s 3, s 5, s 6, s 7, s 9, s 10, s 11, s 25, s 26, s 27, s 43, s 44, s 53, s 54] w) s w) :=
  tr_simple (P := Try.prog) (codes := [(cd (Try.f7.body.getD .skip) [1, 1, 1, 0, 1, 0, 0, 1, 1, 0, 0, 1, 1, 1, 1, 0, 1, 0, 0, 1, 1, 0, 0, 1, 1, 1, 0, 0, 0]), (cd (Try.f7.body.getD .skip) [1, 1, 1, 0, 1, 0, 0, 1, 1, 0, 0, 1, 1, 1, 1, 0, 1, 0, 0, 1, 1, 0, 0, 1, 1, 1, 0, 0, 1, 0]), (cd (Try.f7.body.getD .skip) [1, 1, 1, 0, 1, 0, 0, 1, 1, 0, 0, 1, 1, 1, 1, 0, 1, 0, 0, 1, 1, 0, 0, 1, 1, 1, 0, 0, 1, 1, 0]), (cd (Try.f7.body.getD .skip) [1, 1, 1, 0, 1, 0, 0, 1, 1, 0, 0, 1, 1, 1, 1, 0, 1, 0, 0, 1, 1, 0, 0, 1, 1, 1, 0, 0, 1, 1, 1])]) (N := (fun s w => B3 [s 3, s 5, s 6, s 7, s 9, s 10, s 11, s 25, s 26, s 27, s 43, s 44, s 53, s 54] w)) (N' := (fun s w => B3 [s 3, s 5, s 6, s 7, s 9, s 10, s 11, s 25, s 26, s 27, s 43, s 44, s 53, s 54] w)) (X := (fun i => (bif Nat.beq i 4 then (fun s w => s7_p14 K B1 B2 (s 3) (s 5) (s 6) (s 7) (s 9) (s 25) (s 26) (s 27) (s 43) (s 44) w) else (bif Nat.beq i 3 then (fun s w => s7_p14 K B1 B2 (s 3) (s 5) (s 6) (s 7) (s 9) (s 25) (s 26) (s 27) (s 43) (s 44) w) else (bif Nat.beq i 2 then (fun s w => s7_p13 K B1 (s 3) (s 5) (s 6) (s 7) (s 9) (s 25) (s 26) (s 27) w) else (bif Nat.beq i 1 then (fun s w => s7_p2 K B1 (s 3) (s 25) (s 26) (s 27) w) else (bif Nat.beq i 0 then (fun s w => s7_p1 K w) else (fun _ _ => False)))))))) (X' := (fun i => (bif Nat.beq i 4 then (s7_p14_den K (fun s w => B1 [s 3, s 25, s 26, s 27] w) (fun s w => B2 [s 3, s 5, s 6, s 7, s 9, s 25, s 26, s 27, s 43, s 44] w)) else (bif Nat.beq i 3 then (s7_p14_den K (fun s w => B1 [s 3, s 25, s 26, s 27] w) (fun s w => B2 [s 3, s 5, s 6, s 7, s 9, s 25, s 26, s 27, s 43, s 44] w)) else (bif Nat.beq i 2 then (s7_p13_den K (fun s w => B1 [s 3, s 25, s 26, s 27] w)) else (bif Nat.beq i 1 then (s7_p2_den K (fun s w => B1 [s 3, s 25, s 26, s 27] w)) else (bif Nat.beq i 0 then (s7_p1_den K) else (fun _ _ => False)))))))) (R := s7_R K) (s := s) (w := w) (p := s7_p15 K B1 B2 B3 (s 3) (s 5) (s 6) (s 7) (s 9) (s 10) (s 11) (s 25) (s 26) (s 27) (s 43) (s 44) (s 53) (s 54) w) (q := s7_p15_den K (fun s w => B1 [s 3, s 25, s 26, s 27] w) (fun s w => B2 [s 3, s 5, s 6, s 7, s 9, s 25, s 26, s 27, s 43, s 44] w) (fun s w => B3 [s 3, s 5, s 6, s 7, s 9, s 10, s 11, s 25, s 26, s 27, s 43, s 44, s 53, s 54] w) s w) tr_id (fun i => (tr_bif (fun s w h => s7_p14_ok K B1 B2 s w @h) (tr_bif (fun s w h => s7_p14_ok K B1 B2 s w @h) (tr_bif (fun s w h => s7_p13_ok K B1 s w @h) (tr_bif (fun s w h => s7_p2_ok K B1 s w @h) (tr_bif (fun s w h => s7_p1_ok K s w @h) tr_id)))))) (by kernel_rfl) (by kernel_rfl) @h
def s7_p16_F (K : Value → World → Prop) (B1 : List Value → World → Prop) (B2 : List Value → World → Prop) (B3 : List Value → World → Prop) (l : List Value) (w : World) : Prop :=
  match l with
  | [t3, t5, t6, t7, t9, t10, t11, t25, t26, t27, t43, t44, t53, t54] => s7_p15 K B1 B2 B3 t3 t5 t6 t7 t9 t10 t11 t25 t26 t27 t43 t44 t53 t54 w
  | _ => False
theorem s7_p16_Fe {K : Value → World → Prop} {B1 : List Value → World → Prop} {B2 : List Value → World → Prop} {B3 : List Value → World → Prop} {t3 t5 t6 t7 t9 t10 t11 t25 t26 t27 t43 t44 t53 t54 : Value} {w : World} : s7_p16_F K B1 B2 B3 [t3, t5, t6, t7, t9, t10, t11, t25, t26, t27, t43, t44, t53, t54] w = s7_p15 K B1 B2 B3 t3 t5 t6 t7 t9 t10 t11 t25 t26 t27 t43 t44 t53 t54 w := by kernel_rfl
def s7_p16 (K : Value → World → Prop) (B1 : List Value → World → Prop) (B2 : List Value → World → Prop) (t3 t5 t6 t7 t9 t10 t11 t25 t26 t27 t43 t44 t53 t54 : Value) (w : World) : Prop :=
  LoopL (s7_p16_F K B1 B2) [t3, t5, t6, t7, t9, t10, t11, t25, t26, t27, t43, t44, t53, t54] w
def s7_p16_den (K : Value → World → Prop) (M1 : (Nat → Value) → World → Prop) (M2 : (Nat → Value) → World → Prop) : (Nat → Value) → World → Prop := fun s w => LoopP (fun M3 s w => s7_p15_den K M1 M2 M3 s w) s w
theorem s7_p16_ok (K : Value → World → Prop) (B1 : List Value → World → Prop) (B2 : List Value → World → Prop) (s : Nat → Value) (w : World) (h : s7_p16 K B1 B2 (s 3) (s 5) (s 6) (s 7) (s 9) (s 10) (s 11) (s 25) (s 26) (s 27) (s 43) (s 44) (s 53) (s 54) w) : Tr (s7_p16_den K (fun s w => B1 [s 3, s 25, s 26, s 27] w) (fun s w => B2 [s 3, s 5, s 6, s 7, s 9, s 25, s 26, s 27, s 43, s 44] w) s w) :=
  tr_loop (G := fun N' s w => s7_p15_den K (fun s w => B1 [s 3, s 25, s 26, s 27] w) (fun s w => B2 [s 3, s 5, s 6, s 7, s 9, s 25, s 26, s 27, s 43, s 44] w) N' s w) (F := s7_p16_F K B1 B2) (sel := fun s => [s 3, s 5, s 6, s 7, s 9, s 10, s 11, s 25, s 26, s 27, s 43, s 44, s 53, s 54]) (s := s) (w := w) (p := s7_p16 K B1 B2 (s 3) (s 5) (s 6) (s 7) (s 9) (s 10) (s 11) (s 25) (s 26) (s 27) (s 43) (s 44) (s 53) (s 54) w) (q := s7_p16_den K (fun s w => B1 [s 3, s 25, s 26, s 27] w) (fun s w => B2 [s 3, s 5, s 6, s 7, s 9, s 25, s 26, s 27, s 43, s 44] w) s w) (fun B s w h => s7_p15_ok K B1 B2 B s w @h) (by kernel_rfl) (by kernel_rfl) @h
def s7_p17 (K : Value → World → Prop) (B1 : List Value → World → Prop) (B2 : List Value → World → Prop) (t3 t5 t6 t7 t9 t25 t26 t27 t43 t44 : Value) (w : World) : Prop :=
  rs Try.prog (Instr.makeMap 66 none) (fun t47 w =>
  fd 3 t9 (fun t48 w =>
  ld1 t48 (fun t49 w =>
  ixs 1 t49 t44 (fun t51 w =>
  ld1 t51 (fun t52 w =>
  lnS t52 (fun t53 w =>
  s7_p16 K B1 B2 t3 t5 t6 t7 t9 t44 t47 t25 t26 t27 t43 t44 t53 (.int .i64 0) w) w) w) w) w) w) w
def s7_p17_den (K : Value → World → Prop) (M1 : (Nat → Value) → World → Prop) (M2 : (Nat → Value) → World → Prop) : (Nat → Value) → World → Prop := denL Try.prog [(cd (Try.f7.body.getD .skip) [1, 1, 1, 0, 1, 0, 0, 1, 1, 0, 0, 1, 1, 1, 1, 0, 1, 0, 0, 1, 1, 0, 0, 0]), (cd (Try.f7.body.getD .skip) [1, 1, 1, 0, 1, 0, 0, 1, 1, 0, 0, 1, 1, 1, 1, 0, 1, 0, 0, 1, 1, 0, 0, 1, 0]), (cd (Try.f7.body.getD .skip) [1, 1, 1, 0, 1, 0, 0, 1, 1, 0, 0, 1, 1, 1, 1, 0, 1, 0, 0, 1, 1, 0, 0, 1, 1, 0])] (s7_p16_den K M1 M2) (fun i => (bif Nat.beq i 3 then (s7_p14_den K M1 M2) else (bif Nat.beq i 2 then (s7_p13_den K M1) else (bif Nat.beq i 1 then (s7_p2_den K M1) else (bif Nat.beq i 0 then (s7_p1_den K) else (fun _ _ => False)))))) (s7_R K)
theorem s7_p17_ok (K : Value → World → Prop) (B1 : List Value → World → Prop) (B2 : List Value → World → Prop) (s : Nat → Value) (w : World) (h : s7_p17 K B1 B2 (s 3) (s 5) (s 6) (s 7) (s 9) (s 25) (s 26) (s 27) (s 43) (s 44) w) : Tr (s7_p17_den K (fun s w => B1 [s 3, s 25, s 26, s 27] w) (fun s w => B2 [s 3, s 5, s 6, s 7, s 9, s 25, s 26, s 27, s 43, s 44] w) s w) :=
  tr_simple (P := Try.prog) (codes := [(cd (Try.f7.body.getD .skip) [1, 1, 1, 0, 1, 0, 0, 1, 1, 0, 0, 1, 1, 1, 1, 0, 1, 0, 0, 1, 1, 0, 0, 0]), (cd (Try.f7.body.getD .skip) [1, 1, 1, 0, 1, 0, 0, 1, 1, 0, 0, 1, 1, 1, 1, 0, 1, 0, 0, 1, 1, 0, 0, 1, 0]), (cd (Try.f7.body.getD .skip) [1, 1, 1, 0, 1, 0, 0, 1, 1, 0, 0, 1, 1, 1, 1, 0, 1, 0, 0, 1, 1, 0, 0, 1, 1, 0])]) (N := (fun s w => s7_p16 K B1 B2 (s 3) (s 5) (s 6) (s 7) (s 9) (s 10) (s 11) (s 25) (s 26) (s 27) (s 43) (s 44) (s 53) (s 54) w)) (N' := (s7_p16_den K (fun s w => B1 [s 3, s 25, s 26, s 27] w) (fun s w => B2 [s 3, s 5, s 6, s 7, s 9, s 25, s 26, s 27, s 43, s 44] w))) (X := (fun i => (bif Nat.beq i 3 then (fun s w => s7_p14 K B1 B2 (s 3) (s 5) (s 6) (s 7) (s 9) (s 25) (s 26) (s 27) (s 43) (s 44) w) else (bif Nat.beq i 2 then (fun s w => s7_p13 K B1 (s 3) (s 5) (s 6) (s 7) (s 9) (s 25) (s 26) (s 27) w) else (bif Nat.beq i 1 then (fun s w => s7_p2 K B1 (s 3) (s 25) (s 26) (s 27) w) else (bif Nat.beq i 0 then (fun s w => s7_p1 K w) else (fun _ _ => False))))))) (X' := (fun i => (bif Nat.beq i 3 then (s7_p14_den K (fun s w => B1 [s 3, s 25, s 26, s 27] w) (fun s w => B2 [s 3, s 5, s 6, s 7, s 9, s 25, s 26, s 27, s 43, s 44] w)) else (bif Nat.beq i 2 then (s7_p13_den K (fun s w => B1 [s 3, s 25, s 26, s 27] w)) else (bif Nat.beq i 1 then (s7_p2_den K (fun s w => B1 [s 3, s 25, s 26, s 27] w)) else (bif Nat.beq i 0 then (s7_p1_den K) else (fun _ _ => False))))))) (R := s7_R K) (s := s) (w := w) (p := s7_p17 K B1 B2 (s 3) (s 5) (s 6) (s 7) (s 9) (s 25) (s 26) (s 27) (s 43) (s 44) w) (q := s7_p17_den K (fun s w => B1 [s 3, s 25, s 26, s 27] w) (fun s w => B2 [s 3, s 5, s 6, s 7, s 9, s 25, s 26, s 27, s 43, s 44] w) s w) (fun s w h => s7_p16_ok K B1 B2 s w @h) (fun i => (tr_bif (fun s w h => s7_p14_ok K B1 B2 s w @h) (tr_bif (fun s w h => s7_p13_ok K B1 s w @h) (tr_bif (fun s w h => s7_p2_ok K B1 s w @h) (tr_bif (fun s w h => s7_p1_ok K s w @h) tr_id))))) (by kernel_rfl) (by kernel_rfl) @h
def s7_p18 (K : Value → World → Prop) (B1 : List Value → World → Prop) (B2 : List Value → World → Prop) (t3 t5 t6 t7 t9 t25 t26 t27 t43 t44 : Value) (w : World) : Prop :=
  boI .lss t44 t43 (fun t45 w =>
  ifb t45
  (s7_p17 K B1 B2 t3 t5 t6 t7 t9 t25 t26 t27 t43 t44 w)
  (s7_p13 K B1 t3 t5 t6 t7 t9 t25 t26 t27 w)) w
def s7_p18_den (K : Value → World → Prop) (M1 : (Nat → Value) → World → Prop) (M2 : (Nat → Value) → World → Prop) : (Nat → Value) → World → Prop := denL Try.prog [(cd (Try.f7.body.getD .skip) [1, 1, 1, 0, 1, 0, 0, 1, 1, 0, 0, 1, 1, 1, 1, 0, 1, 0, 0, 0]), (cd (Try.f7.body.getD .skip) [1, 1, 1, 0, 1, 0, 0, 1, 1, 0, 0, 1, 1, 1, 1, 0, 1, 0, 0, 1, 0])] (s7_p17_den K M1 M2) (fun i => (bif Nat.beq i 2 then (s7_p13_den K M1) else (bif Nat.beq i 1 then (s7_p2_den K M1) else (bif Nat.beq i 0 then (s7_p1_den K) else (fun _ _ => False))))) (s7_R K)
theorem s7_p18_ok (K : Value → World → Prop) (B1 : List Value → World → Prop) (B2 : List Value → World → Prop) (s : Nat → Value) (w : World) (h : s7_p18 K B1 B2 (s 3) (s 5) (s 6) (s 7) (s 9) (s 25) (s 26) (s 27) (s 43) (s 44) w) : Tr (s7_p18_den K (fun s w => B1 [s 3, s 25, s 26, s 27] w) (fun s w => B2 [s 3, s 5, s 6, s 7, s 9, s 25, s 26, s 27, s 43, s 44] w) s w) :=
  tr_simple (P := Try.prog) (codes := [(cd (Try.f7.body.getD .skip) [1, 1, 1, 0, 1, 0, 0, 1, 1, 0, 0, 1, 1, 1, 1, 0, 1, 0, 0, 0]), (cd (Try.f7.body.getD .skip) [1, 1, 1, 0, 1, 0, 0, 1, 1, 0, 0, 1, 1, 1, 1, 0, 1, 0, 0, 1, 0])]) (N := (fun s w => s7_p17 K B1 B2 (s 3) (s 5) (s 6) (s 7) (s 9) (s 25) (s 26) (s 27) (s 43) (s 44) w)) (N' := (s7_p17_den K (fun s w => B1 [s 3, s 25, s 26, s 27] w) (fun s w => B2 [s 3, s 5, s 6, s 7, s 9, s 25, s 26, s 27, s 43, s 44] w))) (X := (fun i => (bif Nat.beq i 2 then (fun s w => s7_p13 K B1 (s 3) (s 5) (s 6) (s 7) (s 9) (s 25) (s 26) (s 27) w) else (bif Nat.beq i 1 then (fun s w => s7_p2 K B1 (s 3) (s 25) (s 26) (s 27) w) else (bif Nat.beq i 0 then (fun s w => s7_p1 K w) else (fun _ _ => False)))))) (X' := (fun i => (bif Nat.beq i 2 then (s7_p13_den K (fun s w => B1 [s 3, s 25, s 26, s 27] w)) else (bif Nat.beq i 1 then (s7_p2_den K (fun s w => B1 [s 3, s 25, s 26, s 27] w)) else (bif Nat.beq i 0 then (s7_p1_den K) else (fun _ _ => False)))))) (R := s7_R K) (s := s) (w := w) (p := s7_p18 K B1 B2 (s 3) (s 5) (s 6) (s 7) (s 9) (s 25) (s 26) (s 27) (s 43) (s 44) w) (q := s7_p18_den K (fun s w => B1 [s 3, s 25, s 26, s 27] w) (fun s w => B2 [s 3, s 5, s 6, s 7, s 9, s 25, s 26, s 27, s 43, s 44] w) s w) (fun s w h => s7_p17_ok K B1 B2 s w @h) (fun i => (tr_bif (fun s w h => s7_p13_ok K B1 s w @h) (tr_bif (fun s w h => s7_p2_ok K B1 s w @h) (tr_bif (fun s w h => s7_p1_ok K s w @h) tr_id)))) (by kernel_rfl) (by kernel_rfl) @h
def s7_p19_F (K : Value → World → Prop) (B1 : List Value → World → Prop) (B2 : List Value → World → Prop) (l : List Value) (w : World) : Prop :=
  match l with
  | [t3, t5, t6, t7, t9, t25, t26, t27, t43, t44] => s7_p18 K B1 B2 t3 t5 t6 t7 t9 t25 t26 t27 t43 t44 w
  | _ => False
theorem s7_p19_Fe {K : Value → World → Prop} {B1 : List Value → World → Prop} {B2 : List Value → World → Prop} {t3 t5 t6 t7 t9 t25 t26 t27 t43 t44 : Value} {w : World} : s7_p19_F K B1 B2 [t3, t5, t6, t7, t9, t25, t26, t27, t43, t44] w = s7_p18 K B1 B2 t3 t5 t6 t7 t9 t25 t26 t27 t43 t44 w := by kernel_rfl
def s7_p19 (K : Value → World → Prop) (B1 : List Value → World → Prop) (t3 t5 t6 t7 t9 t25 t26 t27 t43 t44 : Value) (w : World) : Prop :=
  LoopL (s7_p19_F K B1) [t3, t5, t6, t7, t9, t25, t26, t27, t43, t44] w
def s7_p19_den (K : Value → World → Prop) (M1 : (Nat → Value) → World → Prop) : (Nat → Value) → World → Prop := fun s w => LoopP (fun M2 s w => s7_p18_den K M1 M2 s w) s w
theorem s7_p19_ok (K : Value → World → Prop) (B1 : List Value → World → Prop) (s : Nat → Value) (w : World) (h : s7_p19 K B1 (s 3) (s 5) (s 6) (s 7) (s 9) (s 25) (s 26) (s 27) (s 43) (s 44) w) : Tr (s7_p19_den K (fun s w => B1 [s 3, s 25, s 26, s 27] w) s w) :=
  tr_loop (G := fun N' s w => s7_p18_den K (fun s w => B1 [s 3, s 25, s 26, s 27] w) N' s w) (F := s7_p19_F K B1) (sel := fun s => [s 3, s 5, s 6, s 7, s 9, s 25, s 26, s 27, s 43, s 44]) (s := s) (w := w) (p := s7_p19 K B1 (s 3) (s 5) (s 6) (s 7) (s 9) (s 25) (s 26) (s 27) (s 43) (s 44) w) (q := s7_p19_den K (fun s w => B1 [s 3, s 25, s 26, s 27] w) s w) (fun B s w h => s7_p18_ok K B1 B s w @h) (by kernel_rfl) (by kernel_rfl) @h
def s7_p20 (K : Value → World → Prop) (B1 : List Value → World → Prop) (t3 t25 t26 t27 : Value) (w : World) : Prop :=
  ixs 6 t25 t27 (fun t29 w =>
  ldn 6 t29 (fun t30 w =>
  nw 34 #[(.int .i64 0), (.int .i64 0), (.int .i64 0), (.int .i64 0), (.int .i64 0), (.int .i64 0)] (fun t5 w =>
  stn 6 t5 t30 (fun w =>
  cl Try.prog 20 #[t3] (fun t32 w =>
  nw 43 #[(.bool false), (.int .i64 0), (.slice none 0 0), (.slice none 0 0)] (fun t6 w =>
  stn 4 t6 t32 (fun w =>
  ldn 6 t5 (fun t35 w =>
  cl Try.prog 17 #[t3, t35] (fun t36 w =>
  exq t36 0 (fun t37 w =>
  exq t36 1 (fun t38 w =>
  cl Try.prog 20 #[t3] (fun t40 w =>
  nw 43 #[(.bool false), (.int .i64 0), (.slice none 0 0), (.slice none 0 0)] (fun t9 w =>
  stn 4 t9 t40 (fun w =>
  fd 3 t9 (fun t41 w =>
  ld1 t41 (fun t42 w =>
  lnS t42 (fun t43 w =>
  s7_p19 K B1 t3 t5 t6 t37 t9 t25 t26 t27 t43 (.int .i64 0) w) w) w) w) w) w) w) w) w) w) w) w) w) w) w) w) w) w
def s7_p20_den (K : Value → World → Prop) (M1 : (Nat → Value) → World → Prop) : (Nat → Value) → World → Prop := denL Try.prog [(cd (Try.f7.body.getD .skip) [1, 1, 1, 0, 1, 0, 0, 1, 1, 0, 0, 0]), (cd (Try.f7.body.getD .skip) [1, 1, 1, 0, 1, 0, 0, 1, 1, 0, 0, 1, 0]), (cd (Try.f7.body.getD .skip) [1, 1, 1, 0, 1, 0, 0, 1, 1, 0, 0, 1, 1, 0]), (cd (Try.f7.body.getD .skip) [1, 1, 1, 0, 1, 0, 0, 1, 1, 0, 0, 1, 1, 1, 0]), (cd (Try.f7.body.getD .skip) [1, 1, 1, 0, 1, 0, 0, 1, 1, 0, 0, 1, 1, 1, 1, 0, 0])] (s7_p19_den K M1) (fun i => (bif Nat.beq i 1 then (s7_p2_den K M1) else (bif Nat.beq i 0 then (s7_p1_den K) else (fun _ _ => False)))) (s7_R K)
theorem s7_p20_ok (K : Value → World → Prop) (B1 : List Value → World → Prop) (s : Nat → Value) (w : World) (h : s7_p20 K B1 (s 3) (s 25) (s 26) (s 27) w) : Tr (s7_p20_den K (fun s w => B1 [s 3, s 25, s 26, s 27] w) s w) :=
  tr_simple (P := Try.prog) (codes := [(cd (Try.f7.body.getD .skip) [1, 1, 1, 0, 1, 0, 0, 1, 1, 0, 0, 0]), (cd (Try.f7.body.getD .skip) [1, 1, 1, 0, 1, 0, 0, 1, 1, 0, 0, 1, 0]), (cd (Try.f7.body.getD .skip) [1, 1, 1, 0, 1, 0, 0, 1, 1, 0, 0, 1, 1, 0]), (cd (Try.f7.body.getD .skip) [1, 1, 1, 0, 1, 0, 0, 1, 1, 0, 0, 1, 1, 1, 0]), (cd (Try.f7.body.getD .skip) [1, 1, 1, 0, 1, 0, 0, 1, 1, 0, 0, 1, 1, 1, 1, 0, 0])]) (N := (fun s w => s7_p19 K B1 (s 3) (s 5) (s 6) (s 7) (s 9) (s 25) (s 26) (s 27) (s 43) (s 44) w)) (N' := (s7_p19_den K (fun s w => B1 [s 3, s 25, s 26, s 27] w))) (X := (fun i => (bif Nat.beq i 1 then (fun s w => s7_p2 K B1 (s 3) (s 25) (s 26) (s 27) w) else (bif Nat.beq i 0 then (fun s w => s7_p1 K w) else (fun _ _ => False))))) (X' := (fun i => (bif Nat.beq i 1 then (s7_p2_den K (fun s w => B1 [s 3, s 25, s 26, s 27] w)) else (bif Nat.beq i 0 then (s7_p1_den K) else (fun _ _ => False))))) (R := s7_R K) (s := s) (w := w) (p := s7_p20 K B1 (s 3) (s 25) (s 26) (s 27) w) (q := s7_p20_den K (fun s w => B1 [s 3, s 25, s 26, s 27] w) s w) (fun s w h => s7_p19_ok K B1 s w @h) (fun i => (tr_bif (fun s w h => s7_p2_ok K B1 s w @h) (tr_bif (fun s w h => s7_p1_ok K s w @h) tr_id))) (by kernel_rfl) (by kernel_rfl) @h
def s7_p21 (K : Value → World → Prop) (B1 : List Value → World → Prop) (t3 t25 t26 t27 : Value) (w : World) : Prop :=
  boI .lss t27 t26 (fun t28 w =>
  ifb t28
  (s7_p20 K B1 t3 t25 t26 t27 w)
  (s7_p1 K w)) w
def s7_p21_den (K : Value → World → Prop) (M1 : (Nat → Value) → World → Prop) : (Nat → Value) → World → Prop := denL Try.prog [(cd (Try.f7.body.getD .skip) [1, 1, 1, 0, 1, 0, 0, 0]), (cd (Try.f7.body.getD .skip) [1, 1, 1, 0, 1, 0, 0, 1, 0])] (s7_p20_den K M1) (fun i => (bif Nat.beq i 0 then (s7_p1_den K) else (fun _ _ => False))) (s7_R K)
theorem s7_p21_ok (K : Value → World → Prop) (B1 : List Value → World → Prop) (s : Nat → Value) (w : World) (h : s7_p21 K B1 (s 3) (s 25) (s 26) (s 27) w) : Tr (s7_p21_den K (fun s w => B1 [s 3, s 25, s 26, s 27] w) s w) :=
  tr_simple (P := Try.prog) (codes := [(cd (Try.f7.body.getD .skip) [1, 1, 1, 0, 1, 0, 0, 0]), (cd (Try.f7.body.getD .skip) [1, 1, 1, 0, 1, 0, 0, 1, 0])]) (N := (fun s w => s7_p20 K B1 (s 3) (s 25) (s 26) (s 27) w)) (N' := (s7_p20_den K (fun s w => B1 [s 3, s 25, s 26, s 27] w))) (X := (fun i => (bif Nat.beq i 0 then (fun s w => s7_p1 K w) else (fun _ _ => False)))) (X' := (fun i => (bif Nat.beq i 0 then (s7_p1_den K) else (fun _ _ => False)))) (R := s7_R K) (s := s) (w := w) (p := s7_p21 K B1 (s 3) (s 25) (s 26) (s 27) w) (q := s7_p21_den K (fun s w => B1 [s 3, s 25, s 26, s 27] w) s w) (fun s w h => s7_p20_ok K B1 s w @h) (fun i => (tr_bif (fun s w h => s7_p1_ok K s w @h) tr_id)) (by kernel_rfl) (by kernel_rfl) @h
def s7_p22_F (K : Value → World → Prop) (B1 : List Value → World → Prop) (l : List Value) (w : World) : Prop :=
  match l with
  | [t3, t25, t26, t27] => s7_p21 K B1 t3 t25 t26 t27 w
  | _ => False
theorem s7_p22_Fe {K : Value → World → Prop} {B1 : List Value → World → Prop} {t3 t25 t26 t27 : Value} {w : World} : s7_p22_F K B1 [t3, t25, t26, t27] w = s7_p21 K B1 t3 t25 t26 t27 w := by kernel_rfl
def s7_p22 (K : Value → World → Prop) (t3 t25 t26 t27 : Value) (w : World) : Prop :=
  LoopL (s7_p22_F K) [t3, t25, t26, t27] w
def s7_p22_den (K : Value → World → Prop) : (Nat → Value) → World → Prop := fun s w => LoopP (fun M1 s w => s7_p21_den K M1 s w) s w
theorem s7_p22_ok (K : Value → World → Prop) (s : Nat → Value) (w : World) (h : s7_p22 K (s 3) (s 25) (s 26) (s 27) w) : Tr (s7_p22_den K s w) :=
  tr_loop (G := fun N' s w => s7_p21_den K N' s w) (F := s7_p22_F K) (sel := fun s => [s 3, s 25, s 26, s 27]) (s := s) (w := w) (p := s7_p22 K (s 3) (s 25) (s 26) (s 27) w) (q := s7_p22_den K s w) (fun B s w h => s7_p21_ok K B s w @h) (by kernel_rfl) (by kernel_rfl) @h
def s7_p23 (K : Value → World → Prop) (t0 : Value) (w : World) : Prop :=
  cl Try.prog 13 #[t0] (fun t22 w =>
  un .not t22 (fun t23 w =>
  ifb t23
  (K (.bool true) w)
  (cl Try.prog 14 #[] (fun t24 w =>
  lnS t0 (fun t26 w =>
  s7_p22 K t24 t0 t26 (.int .i64 0) w) w) w)) w) w
def s7_p23_den (K : Value → World → Prop) : (Nat → Value) → World → Prop := denL Try.prog [(cd (Try.f7.body.getD .skip) [0]), (cd (Try.f7.body.getD .skip) [1, 0, 0]), (cd (Try.f7.body.getD .skip) [1, 0, 1]), (cd (Try.f7.body.getD .skip) [1, 1, 0]), (cd (Try.f7.body.getD .skip) [1, 1, 1, 0, 0])] (s7_p22_den K) (fun i => (fun _ _ => False)) (s7_R K)
theorem s7_p23_ok (K : Value → World → Prop) (s : Nat → Value) (w : World) (h : s7_p23 K (s 0) w) : Tr (s7_p23_den K s w) :=
  tr_simple (P := Try.prog) (codes := [(cd (Try.f7.body.getD .skip) [0]), (cd (Try.f7.body.getD .skip) [1, 0, 0]), (cd (Try.f7.body.getD .skip) [1, 0, 1]), (cd (Try.f7.body.getD .skip) [1, 1, 0]), (cd (Try.f7.body.getD .skip) [1, 1, 1, 0, 0])]) (N := (fun s w => s7_p22 K (s 3) (s 25) (s 26) (s 27) w)) (N' := (s7_p22_den K)) (X := (fun i => (fun _ _ => False))) (X' := (fun i => (fun _ _ => False))) (R := s7_R K) (s := s) (w := w) (p := s7_p23 K (s 0) w) (q := s7_p23_den K s w) (fun s w h => s7_p22_ok K s w @h) (fun i => tr_id) (by kernel_rfl) (by kernel_rfl) @h
/-- the call, from the text -/
theorem c7 (t0 : Value) {K : Value → World → Prop} {w : World} (h : s7_p23 K t0 w) : cl Try.prog 7 #[t0] K w :=
  calls_of_tr (c := (Try.f7.body.getD .skip)) (fn := Try.f7) (q := s7_p23_den K (st0 #[t0]) w) Try.func7 (by kernel_rfl) (by kernel_rfl) (Nat.le_of_ble_eq_true (by kernel_rfl)) (by kernel_rfl) (by kernel_rfl) (s7_p23_ok K (st0 #[t0]) w @h)

/-! ### function 8 : e2e.slotslaw.DwellIsCarriedPastTheHorizon -/
def s8_R (K : Value → World → Prop) (s : Nat → Value) (w : World) : Prop := retv Try.prog s Try.f8.results.toList (fun vs => K (pack vs) w) w
def s8_p1 (K : Value → World → Prop) (w : World) : Prop :=
  K (.bool true) w
def s8_p1_den (K : Value → World → Prop) : (Nat → Value) → World → Prop := denL Try.prog [(cd (Try.f8.body.getD .skip) [1, 1, 1, 1, 1, 0]), (cd (Try.f8.body.getD .skip) [1, 1, 1, 1, 1, 1])] (fun _ _ => False) (fun i => (fun _ _ => False)) (s8_R K)
theorem s8_p1_ok (K : Value → World → Prop) (s : Nat → Value) (w : World) (h : s8_p1 K w) : Tr (s8_p1_den K s w) :=
  tr_simple (P := Try.prog) (codes := [(cd (Try.f8.body.getD .skip) [1, 1, 1, 1, 1, 0]), (cd (Try.f8.body.getD .skip) [1, 1, 1, 1, 1, 1])]) (N := (fun _ _ => False)) (N' := (fun _ _ => False)) (X := (fun i => (fun _ _ => False))) (X' := (fun i => (fun _ _ => False))) (R := s8_R K) (s := s) (w := w) (p := s8_p1 K w) (q := s8_p1_den K s w) tr_id (fun i => tr_id) (by kernel_rfl) (by kernel_rfl) @h
def s8_p2 (K : Value → World → Prop) (B1 : List Value → World → Prop) (t3 t4 t5 t24 t25 t26 : Value) (w : World) : Prop :=
  boI .add t26 (.int .i64 1) (fun t150 w =>
  B1 [t3, t4, t5, t24, t25, t150] w) w
def s8_p2_den (K : Value → World → Prop) (M1 : (Nat → Value) → World → Prop) : (Nat → Value) → World → Prop := denL Try.prog [(cd (Try.f8.body.getD .skip) [1, 1, 1, 1, 0, 1, 0, 0, 1, 1, 1])] M1 (fun i => (bif Nat.beq i 0 then (s8_p1_den K) else (fun _ _ => False))) (s8_R K)
theorem s8_p2_ok (K : Value → World → Prop) (B1 : List Value → World → Prop) (s : Nat → Value) (w : World) (h : s8_p2 K B1 (s 3) (s 4) (s 5) (s 24) (s 25) (s 26) w) : Tr (s8_p2_den K (fun s w => B1 [s 3, s 4, s 5, s 24, s 25, s 26] w) s w) :=
  tr_simple (P := Try.prog) (codes := [(cd (Try.f8.body.getD .skip) [1, 1, 1, 1, 0, 1, 0, 0, 1, 1, 1])]) (N := (fun s w => B1 [s 3, s 4, s 5, s 24, s 25, s 26] w)) (N' := (fun s w => B1 [s 3, s 4, s 5, s 24, s 25, s 26] w)) (X := (fun i => (bif Nat.beq i 0 then (fun s w => s8_p1 K w) else (fun _ _ => False)))) (X' := (fun i => (bif Nat.beq i 0 then (s8_p1_den K) else (fun _ _ => False)))) (R := s8_R K) (s := s) (w := w) (p := s8_p2 K B1 (s 3) (s 4) (s 5) (s 24) (s 25) (s 26) w) (q := s8_p2_den K (fun s w => B1 [s 3, s 4, s 5, s 24, s 25, s 26] w) s w) tr_id (fun i => (tr_bif (fun s w h => s8_p1_ok K s w @h) tr_id)) (by kernel_rfl) (by kernel_rfl) @h
def s8_p3 (K : Value → World → Prop) (B1 : List Value → World → Prop) (t3 t4 t5 t7 t24 t25 t26 : Value) (w : World) : Prop :=
  fd 1 t7 (fun t45 w =>
  ld1 t45 (fun t46 w =>
  fd 2 t7 (fun t47 w =>
  ld1 t47 (fun t48 w =>
  fd 5 t7 (fun t49 w =>
  ld1 t49 (fun t50 w =>
  bdq [(.int .i64 0), (.int .i64 0), (.int .i64 0)] [(some (0, 1), t46), (some (1, 1), t48), (some (2, 1), t50)] (fun t51 w =>
  bsq 72 [(.int .i64 0), (.int .i64 0), (.int .i64 0)] 1 [(some (0, 3), t51)] (fun t52 w =>
  apq 72 [(.int .i64 0), (.int .i64 0), (.int .i64 0)] 24 t3 t52 (fun t53 w =>
  s8_p2 K B1 t53 t4 t5 t24 t25 t26 w) w) w) w) w) w) w) w) w) w
def s8_p3_den (K : Value → World → Prop) (M1 : (Nat → Value) → World → Prop) : (Nat → Value) → World → Prop := denL Try.prog [(cd (Try.f8.body.getD .skip) [1, 1, 1, 1, 0, 1, 0, 0, 1, 1, 0, 0, 1, 1, 1, 1, 1, 0, 1, 0])] (s8_p2_den K M1) (fun i => (bif Nat.beq i 2 then (s8_p2_den K M1) else (bif Nat.beq i 1 then (s8_p2_den K M1) else (bif Nat.beq i 0 then (s8_p1_den K) else (fun _ _ => False))))) (s8_R K)
theorem s8_p3_ok (K : Value → World → Prop) (B1 : List Value → World → Prop) (s : Nat → Value) (w : World) (h : s8_p3 K B1 (s 3) (s 4) (s 5) (s 7) (s 24) (s 25) (s 26) w) : Tr (s8_p3_den K (fun s w => B1 [s 3, s 4, s 5, s 24, s 25, s 26] w) s w) :=
  tr_simple (P := Try.prog) (codes := [(cd (Try.f8.body.getD .skip) [1, 1, 1, 1, 0, 1, 0, 0, 1, 1, 0, 0, 1, 1, 1, 1, 1, 0, 1, 0])]) (N := (fun s w => s8_p2 K B1 (s 3) (s 4) (s 5) (s 24) (s 25) (s 26) w)) (N' := (s8_p2_den K (fun s w => B1 [s 3, s 4, s 5, s 24, s 25, s 26] w))) (X := (fun i => (bif Nat.beq i 2 then (fun s w => s8_p2 K B1 (s 3) (s 4) (s 5) (s 24) (s 25) (s 26) w) else (bif Nat.beq i 1 then (fun s w => s8_p2 K B1 (s 3) (s 4) (s 5) (s 24) (s 25) (s 26) w) else (bif Nat.beq i 0 then (fun s w => s8_p1 K w) else (fun _ _ => False)))))) (X' := (fun i => (bif Nat.beq i 2 then (s8_p2_den K (fun s w => B1 [s 3, s 4, s 5, s 24, s 25, s 26] w)) else (bif Nat.beq i 1 then (s8_p2_den K (fun s w => B1 [s 3, s 4, s 5, s 24, s 25, s 26] w)) else (bif Nat.beq i 0 then (s8_p1_den K) else (fun _ _ => False)))))) (R := s8_R K) (s := s) (w := w) (p := s8_p3 K B1 (s 3) (s 4) (s 5) (s 7) (s 24) (s 25) (s 26) w) (q := s8_p3_den K (fun s w => B1 [s 3, s 4, s 5, s 24, s 25, s 26] w) s w) (fun s w h => s8_p2_ok K B1 s w @h) (fun i => (tr_bif (fun s w h => s8_p2_ok K B1 s w @h) (tr_bif (fun s w h => s8_p2_ok K B1 s w @h) (tr_bif (fun s w h => s8_p1_ok K s w @h) tr_id)))) (by kernel_rfl) (by kernel_rfl) @h
def s8_p4 (K : Value → World → Prop) (B1 : List Value → World → Prop) (t3 t4 t5 t7 t24 t25 t26 : Value) (w : World) : Prop :=
  fd 1 t7 (fun t57 w =>
  ld1 t57 (fun t58 w =>
  fd 2 t7 (fun t59 w =>
  ld1 t59 (fun t60 w =>
  fd 5 t7 (fun t61 w =>
  ld1 t61 (fun t62 w =>
  un .neg t62 (fun t63 w =>
  bdq [(.int .i64 0), (.int .i64 0), (.int .i64 0)] [(some (0, 1), t58), (some (1, 1), t60), (some (2, 1), t63)] (fun t64 w =>
  bsq 72 [(.int .i64 0), (.int .i64 0), (.int .i64 0)] 1 [(some (0, 3), t64)] (fun t65 w =>
  apq 72 [(.int .i64 0), (.int .i64 0), (.int .i64 0)] 24 t3 t65 (fun t66 w =>
  s8_p2 K B1 t66 t4 t5 t24 t25 t26 w) w) w) w) w) w) w) w) w) w) w
def s8_p4_den (K : Value → World → Prop) (M1 : (Nat → Value) → World → Prop) : (Nat → Value) → World → Prop := denL Try.prog [(cd (Try.f8.body.getD .skip) [1, 1, 1, 1, 0, 1, 0, 0, 1, 1, 0, 0, 1, 1, 1, 1, 1, 0, 1, 1, 1, 0])] (s8_p2_den K M1) (fun i => (bif Nat.beq i 2 then (s8_p2_den K M1) else (bif Nat.beq i 1 then (s8_p2_den K M1) else (bif Nat.beq i 0 then (s8_p1_den K) else (fun _ _ => False))))) (s8_R K)
theorem s8_p4_ok (K : Value → World → Prop) (B1 : List Value → World → Prop) (s : Nat → Value) (w : World) (h : s8_p4 K B1 (s 3) (s 4) (s 5) (s 7) (s 24) (s 25) (s 26) w) : Tr (s8_p4_den K (fun s w => B1 [s 3, s 4, s 5, s 24, s 25, s 26] w) s w) :=
  tr_simple (P := Try.prog) (codes := [(cd (Try.f8.body.getD .skip) [1, 1, 1, 1, 0, 1, 0, 0, 1, 1, 0, 0, 1, 1, 1, 1, 1, 0, 1, 1, 1, 0])]) (N := (fun s w => s8_p2 K B1 (s 3) (s 4) (s 5) (s 24) (s 25) (s 26) w)) (N' := (s8_p2_den K (fun s w => B1 [s 3, s 4, s 5, s 24, s 25, s 26] w))) (X := (fun i => (bif Nat.beq i 2 then (fun s w => s8_p2 K B1 (s 3) (s 4) (s 5) (s 24) (s 25) (s 26) w) else (bif Nat.beq i 1 then (fun s w => s8_p2 K B1 (s 3) (s 4) (s 5) (s 24) (s 25) (s 26) w) else (bif Nat.beq i 0 then (fun s w => s8_p1 K w) else (fun _ _ => False)))))) (X' := (fun i => (bif Nat.beq i 2 then (s8_p2_den K (fun s w => B1 [s 3, s 4, s 5, s 24, s 25, s 26] w)) else (bif Nat.beq i 1 then (s8_p2_den K (fun s w => B1 [s 3, s 4, s 5, s 24, s 25, s 26] w)) else (bif Nat.beq i 0 then (s8_p1_den K) else (fun _ _ => False)))))) (R := s8_R K) (s := s) (w := w) (p := s8_p4 K B1 (s 3) (s 4) (s 5) (s 7) (s 24) (s 25) (s 26) w) (q := s8_p4_den K (fun s w => B1 [s 3, s 4, s 5, s 24, s 25, s 26] w) s w) (fun s w h => s8_p2_ok K B1 s w @h) (fun i => (tr_bif (fun s w h => s8_p2_ok K B1 s w @h) (tr_bif (fun s w h => s8_p2_ok K B1 s w @h) (tr_bif (fun s w h => s8_p1_ok K s w @h) tr_id)))) (by kernel_rfl) (by kernel_rfl) @h
def s8_p5 (K : Value → World → Prop) (B1 : List Value → World → Prop) (B2 : List Value → World → Prop) (t3 t4 t5 t8 t24 t25 t26 t70 t71 t72 : Value) (w : World) : Prop :=
  boI .add t72 (.int .i64 1) (fun t149 w =>
  B2 [t3, t4, t5, t8, t24, t25, t26, t70, t71, t149] w) w
def s8_p5_den (K : Value → World → Prop) (M1 : (Nat → Value) → World → Prop) (M2 : (Nat → Value) → World → Prop) : (Nat → Value) → World → Prop := denL Try.prog [(cd (Try.f8.body.getD .skip) [1, 1, 1, 1, 0, 1, 0, 0, 1, 1, 0, 0, 1, 1, 1, 1, 1, 0, 1, 1, 1, 1, 1, 0, 1, 0, 0, 1, 1, 1])] M2 (fun i => (bif Nat.beq i 3 then (s8_p2_den K M1) else (bif Nat.beq i 2 then (s8_p2_den K M1) else (bif Nat.beq i 1 then (s8_p2_den K M1) else (bif Nat.beq i 0 then (s8_p1_den K) else (fun _ _ => False)))))) (s8_R K)
theorem s8_p5_ok (K : Value → World → Prop) (B1 : List Value → World → Prop) (B2 : List Value → World → Prop) (s : Nat → Value) (w : World) (h : s8_p5 K B1 B2 (s 3) (s 4) (s 5) (s 8) (s 24) (s 25) (s 26) (s 70) (s 71) (s 72) w) : Tr (s8_p5_den K (fun s w => B1 [s 3, s 4, s 5, s 24, s 25, s 26] w) (fun s w => B2 [s 3, s 4, s 5, s 8, s 24, s 25, s 26, s 70, s 71, s 72] w) s w) :=
  tr_simple (P := Try.prog) (codes := [(cd (Try.f8.body.getD .skip) [1, 1, 1, 1, 0, 1, 0, 0, 1, 1, 0, 0, 1, 1, 1, 1, 1, 0, 1, 1, 1, 1, 1, 0, 1, 0, 0, 1, 1, 1])]) (N := (fun s w => B2 [s 3, s 4, s 5, s 8, s 24, s 25, s 26, s 70, s 71, s 72] w)) (N' := (fun s w => B2 [s 3, s 4, s 5, s 8, s 24, s 25, s 26, s 70, s 71, s 72] w)) (X := (fun i => (bif Nat.beq i 3 then (fun s w => s8_p2 K B1 (s 3) (s 4) (s 5) (s 24) (s 25) (s 26) w) else (bif Nat.beq i 2 then (fun s w => s8_p2 K B1 (s 3) (s 4) (s 5) (s 24) (s 25) (s 26) w) else (bif Nat.beq i 1 then (fun s w => s8_p2 K B1 (s 3) (s 4) (s 5) (s 24) (s 25) (s 26) w) else (bif Nat.beq i 0 then (fun s w => s8_p1 K w) else (fun _ _ => False))))))) (X' := (fun i => (bif Nat.beq i 3 then (s8_p2_den K (fun s w => B1 [s 3, s 4, s 5, s 24, s 25, s 26] w)) else (bif Nat.beq i 2 then (s8_p2_den K (fun s w => B1 [s 3, s 4, s 5, s 24, s 25, s 26] w)) else (bif Nat.beq i 1 then (s8_p2_den K (fun s w => B1 [s 3, s 4, s 5, s 24, s 25, s 26] w)) else (bif Nat.beq i 0 then (s8_p1_den K) else (fun _ _ => False))))))) (R := s8_R K) (s := s) (w := w) (p := s8_p5 K B1 B2 (s 3) (s 4) (s 5) (s 8) (s 24) (s 25) (s 26) (s 70) (s 71) (s 72) w) (q := s8_p5_den K (fun s w => B1 [s 3, s 4, s 5, s 24, s 25, s 26] w) (fun s w => B2 [s 3, s 4, s 5, s 8, s 24, s 25, s 26, s 70, s 71, s 72] w) s w) tr_id (fun i => (tr_bif (fun s w h => s8_p2_ok K B1 s w @h) (tr_bif (fun s w h => s8_p2_ok K B1 s w @h) (tr_bif (fun s w h => s8_p2_ok K B1 s w @h) (tr_bif (fun s w h => s8_p1_ok K s w @h) tr_id))))) (by kernel_rfl) (by kernel_rfl) @h
def s8_p6 (K : Value → World → Prop) (B1 : List Value → World → Prop) (B2 : List Value → World → Prop) (B3 : List Value → World → Prop) (t3 t4 t5 t8 t11 t12 t13 t24 t25 t26 t70 t71 t72 : Value) (w : World) : Prop :=
  boI .add t13 (.int .i64 1) (fun t87 w =>
  B3 [t3, t4, t5, t8, t11, t12, t87, t24, t25, t26, t70, t71, t72] w) w
def s8_p6_den (K : Value → World → Prop) (M1 : (Nat → Value) → World → Prop) (M2 : (Nat → Value) → World → Prop) (M3 : (Nat → Value) → World → Prop) : (Nat → Value) → World → Prop := denL Try.prog [(cd (Try.f8.body.getD .skip) [1, 1, 1, 1, 0, 1, 0, 0, 1, 1, 0, 0, 1, 1, 1, 1, 1, 0, 1, 1, 1, 1, 1, 0, 1, 0, 0, 1, 1, 0, 0, 1, 1, 0, 0, 1, 1])] M3 (fun i => (bif Nat.beq i 5 then (s8_p5_den K M1 M2) else (bif Nat.beq i 4 then (s8_p5_den K M1 M2) else (bif Nat.beq i 3 then (s8_p2_den K M1) else (bif Nat.beq i 2 then (s8_p2_den K M1) else (bif Nat.beq i 1 then (s8_p2_den K M1) else (bif Nat.beq i 0 then (s8_p1_den K) else (fun _ _ => False)))))))) (s8_R K)
theorem s8_p6_ok (K : Value → World → Prop) (B1 : List Value → World → Prop) (B2 : List Value → World → Prop) (B3 : List Value → World → Prop) (s : Nat → Value) (w : World) (h : s8_p6 K B1 B2 B3 (s 3) (s 4) (s 5) (s 8) (s 11) (s 12) (s 13) (s 24) (s 25) (s 26) (s 70) (s 71) (s 72) w) : Tr (s8_p6_den K (fun s w => B1 [s 3, s 4, s 5, s 24, s 25, s 26] w) (fun s w => B2 [s 3, s 4, s 5, s 8, s 24, s 25, s 26, s 70, s 71, s 72] w) (fun s w => B3 [s 3, s 4, s 5, s 8, s 11, s 12, s 13, s 24, s 25, s 26, s 70, s 71, s 72] w) s w) :=
  tr_simple (P := Try.prog) (codes := [(cd (Try.f8.body.getD .skip) [1, 1, 1, 1, 0, 1, 0, 0, 1, 1, 0, 0, 1, 1, 1, 1, 1, 0, 1, 1, 1, 1, 1, 0, 1, 0, 0, 1, 1, 0, 0, 1, 1, 0, 0, 1, 1])]) (N := (fun s w => B3 [s 3, s 4, s 5, s 8, s 11, s 12, s 13, s 24, s 25, s 26, s 70, s 71, s 72] w)) (N' := (fun s w => B3 [s 3, s 4, s 5, s 8, s 11, s 12, s 13, s 24, s 25, s 26, s 70, s 71, s 72] w)) (X := (fun i => (bif Nat.beq i 5 then (fun s w => s8_p5 K B1 B2 (s 3) (s 4) (s 5) (s 8) (s 24) (s 25) (s 26) (s 70) (s 71) (s 72) w) else (bif Nat.beq i 4 then (fun s w => s8_p5 K B1 B2 (s 3) (s 4) (s 5) (s 8) (s 24) (s 25) (s 26) (s 70) (s 71) (s 72) w) else (bif Nat.beq i 3 then (fun s w => s8_p2 K B1 (s 3) (s 4) (s 5) (s 24) (s 25) (s 26) w) else (bif Nat.beq i 2 then (fun s w => s8_p2 K B1 (s 3) (s 4) (s 5) (s 24) (s 25) (s 26) w) else (bif Nat.beq i 1 then (fun s w => s8_p2 K B1 (s 3) (s 4) (s 5) (s 24) (s 25) (s 26) w) else (bif Nat.beq i 0 then (fun s w => s8_p1 K w) else (fun _ _ => False))))))))) (X' := (fun i => (bif Nat.beq i 5 then (s8_p5_den K (fun s w => B1 [s 3, s 4, s 5, s 24, s 25, s 26] w) (fun s w => B2 [s 3, s 4, s 5, s 8, s 24, s 25, s 26, s 70, s 71, s 72] w)) else (bif Nat.beq i 4 then (s8_p5_den K (fun s w => B1 [s 3, s 4, s 5, s 24, s 25, s 26] w) (fun s w => B2 [s 3, s 4, s 5, s 8, s 24, s 25, s 26, s 70, s 71, s 72] w)) else (bif Nat.beq i 3 then (s8_p2_den K (fun s w => B1 [s 3, s 4, s 5, s 24, s 25, s 26] w)) else (bif Nat.beq i 2 then (s8_p2_den K (fun s w => B1 [s 3, s 4, s 5, s 24, s 25, s 26] w)) else (bif Nat.beq i 1 then (s8_p2_den K (fun s w => B1 [s 3, s 4, s 5, s 24, s 25, s 26] w)) else (bif Nat.beq i 0 then (s8_p1_den K) else (fun _ _ => False))))))))) (R := s8_R K) (s := s) (w := w) (p := s8_p6 K B1 B2 B3 (s 3) (s 4) (s 5) (s 8) (s 11) (s 12) (s 13) (s 24) (s 25) (s 26) (s 70) (s 71) (s 72) w) (q := s8_p6_den K (fun s w => B1 [s 3, s 4, s 5, s 24, s 25, s 26] w) (fun s w => B2 [s 3, s 4, s 5, s 8, s 24, s 25, s 26, s 70, s 71, s 72] w) (fun s w => B3 [s 3, s 4, s 5, s 8, s 11, s 12, s 13, s 24, s 25, s 26, s 70, s 71, s 72] w) s w) tr_id (fun i => (tr_bif (fun s w h => s8_p5_ok K B1 B2 s w @h) (tr_bif (fun s w h => s8_p5_ok K B1 B2 s w @h) (tr_bif (fun s w h => s8_p2_ok K B1 s w @h) (tr_bif (fun s w h => s8_p2_ok K B1 s w @h) (tr_bif (fun s w h => s8_p2_ok K B1 s w @h) (tr_bif (fun s w h => s8_p1_ok K s w @h) tr_id))))))) (by kernel_rfl) (by kernel_rfl) @h
def s8_p7 (K : Value → World → Prop) (B1 : List Value → World → Prop) (B2 : List Value → World → Prop) (B3 : List Value → World → Prop) (t3 t4 t5 t8 t11 t12 t13 t14 t24 t25 t26 t70 t71 t72 : Value) (w : World) : Prop :=
  cl Try.prog 23 #[t4, t11, t13] (fun t128 w =>
  exq t128 0 (fun t129 w =>
  exq t128 1 (fun t130 w =>
  boF true .neq t130 .nilIface (fun t132 w =>
  gd t132 false (fun K w => K t129 w) (fun t134 w =>
  gd t132 false (fun K w => K t14 w) (fun t135 w =>
  gd t132 false (boI .neq t134 t135) (fun t136 w =>
  pk t132 (.bool true) t136 (fun t137 w =>
  ifb t137
  (K (.bool false) w)
  (fd 0 t12 (fun t141 w =>
  ld1 t141 (fun t142 w =>
  boI .sub t142 t14 (fun t144 w =>
  boI .add t144 (.int .i64 1) (fun t145 w =>
  cl Try.prog 33 #[t4, t11, t13, (.int .i64 0), t145] (fun t146 w =>
  cl Try.prog 32 #[t146] (fun t147 w =>
  boI .neq t147 (.int .i64 5) (fun t148 w =>
  ifb t148
  (K (.bool false) w)
  (s8_p6 K B1 B2 B3 t3 t4 t5 t8 t11 t12 t13 t24 t25 t26 t70 t71 t72 w)) w) w) w) w) w) w) w)) w) w) w) w) w) w) w) w
def s8_p7_den (K : Value → World → Prop) (M1 : (Nat → Value) → World → Prop) (M2 : (Nat → Value) → World → Prop) (M3 : (Nat → Value) → World → Prop) : (Nat → Value) → World → Prop := denL Try.prog [(cd (Try.f8.body.getD .skip) [1, 1, 1, 1, 0, 1, 0, 0, 1, 1, 0, 0, 1, 1, 1, 1, 1, 0, 1, 1, 1, 1, 1, 0, 1, 0, 0, 1, 1, 0, 0, 1, 1, 0, 0, 1, 0, 0, 1, 1, 1, 0]), (cd (Try.f8.body.getD .skip) [1, 1, 1, 1, 0, 1, 0, 0, 1, 1, 0, 0, 1, 1, 1, 1, 1, 0, 1, 1, 1, 1, 1, 0, 1, 0, 0, 1, 1, 0, 0, 1, 1, 0, 0, 1, 0, 0, 1, 1, 1, 1, 0, 0]), (cd (Try.f8.body.getD .skip) [1, 1, 1, 1, 0, 1, 0, 0, 1, 1, 0, 0, 1, 1, 1, 1, 1, 0, 1, 1, 1, 1, 1, 0, 1, 0, 0, 1, 1, 0, 0, 1, 1, 0, 0, 1, 0, 0, 1, 1, 1, 1, 0, 1]), (cd (Try.f8.body.getD .skip) [1, 1, 1, 1, 0, 1, 0, 0, 1, 1, 0, 0, 1, 1, 1, 1, 1, 0, 1, 1, 1, 1, 1, 0, 1, 0, 0, 1, 1, 0, 0, 1, 1, 0, 0, 1, 0, 0, 1, 1, 1, 1, 1, 0]), (cd (Try.f8.body.getD .skip) [1, 1, 1, 1, 0, 1, 0, 0, 1, 1, 0, 0, 1, 1, 1, 1, 1, 0, 1, 1, 1, 1, 1, 0, 1, 0, 0, 1, 1, 0, 0, 1, 1, 0, 0, 1, 0, 0, 1, 1, 1, 1, 1, 1])] (s8_p6_den K M1 M2 M3) (fun i => (bif Nat.beq i 6 then (s8_p6_den K M1 M2 M3) else (bif Nat.beq i 5 then (s8_p5_den K M1 M2) else (bif Nat.beq i 4 then (s8_p5_den K M1 M2) else (bif Nat.beq i 3 then (s8_p2_den K M1) else (bif Nat.beq i 2 then (s8_p2_den K M1) else (bif Nat.beq i 1 then (s8_p2_den K M1) else (bif Nat.beq i 0 then (s8_p1_den K) else (fun _ _ => False))))))))) (s8_R K)
theorem s8_p7_ok (K : Value → World → Prop) (B1 : List Value → World → Prop) (B2 : List Value → World → Prop) (B3 : List Value → World → Prop) (s : Nat → Value) (w : World) (h : s8_p7 K B1 B2 B3 (s 3) (s 4) (s 5) (s 8) (s 11) (s 12) (s 13) (s 14) (s 24) (s 25) (s 26) (s 70) (s 71) (s 72) w) : Tr (s8_p7_den K (fun s w => B1 [s 3, s 4, s 5, s 24, s 25, s 26] w) (fun s w => B2 [s 3, s 4, s 5, s 8, s 24, s 25, s 26, s 70, s 71, s 72] w) (fun s w => B3 [s 3, s 4, s 5, s 8, s 11, s 12, s 13, s 24, s 25, s 26, s 70, s 71, s 72] w) s w) :=
  tr_simple (P := Try.prog) (codes := [(cd (Try.f8.body.getD .skip) [1, 1, 1, 1, 0, 1, 0, 0, 1, 1, 0, 0, 1, 1, 1, 1, 1, 0, 1, 1, 1, 1, 1, 0, 1, 0, 0, 1, 1, 0, 0, 1, 1, 0, 0, 1, 0, 0, 1, 1, 1, 0]), (cd (Try.f8.body.getD .skip) [1, 1, 1, 1, 0, 1, 0, 0, 1, 1, 0, 0, 1, 1, 1, 1, 1, 0, 1, 1, 1, 1, 1, 0, 1, 0, 0, 1, 1, 0, 0, 1, 1, 0, 0, 1, 0, 0, 1, 1, 1, 1, 0, 0]), (cd (Try.f8.body.getD .skip) [1, 1, 1, 1, 0, 1, 0, 0, 1, 1, 0, 0, 1, 1, 1, 1, 1, 0, 1, 1, 1, 1, 1, 0, 1, 0, 0, 1, 1, 0, 0, 1, 1, 0, 0, 1, 0, 0, 1, 1, 1, 1, 0, 1]), (cd (Try.f8.body.getD .skip) [1, 1, 1, 1, 0, 1, 0, 0, 1, 1, 0, 0, 1, 1, 1, 1, 1, 0, 1, 1, 1, 1, 1, 0, 1, 0, 0, 1, 1, 0, 0, 1, 1, 0, 0, 1, 0, 0, 1, 1, 1, 1, 1, 0]), (cd (Try.f8.body.getD .skip) [1, 1, 1, 1, 0, 1, 0, 0, 1, 1, 0, 0, 1, 1, 1, 1, 1, 0, 1, 1, 1, 1, 1, 0, 1, 0, 0, 1, 1, 0, 0, 1, 1, 0, 0, 1, 0, 0, 1, 1, 1, 1, 1, 1])]) (N := (fun s w => s8_p6 K B1 B2 B3 (s 3) (s 4) (s 5) (s 8) (s 11) (s 12) (s 13) (s 24) (s 25) (s 26) (s 70) (s 71) (s 72) w)) (N' := (s8_p6_den K (fun s w => B1 [s 3, s 4, s 5, s 24, s 25, s 26] w) (fun s w => B2 [s 3, s 4, s 5, s 8, s 24, s 25, s 26, s 70, s 71, s 72] w) (fun s w => B3 [s 3, s 4, s 5, s 8, s 11, s 12, s 13, s 24, s 25, s 26, s 70, s 71, s 72] w))) (X := (fun i => (bif Nat.beq i 6 then (fun s w => s8_p6 K B1 B2 B3 (s 3) (s 4) (s 5) (s 8) (s 11) (s 12) (s 13) (s 24) (s 25) (s 26) (s 70) (s 71) (s 72) w) else (bif Nat.beq i 5 then (fun s w => s8_p5 K B1 B2 (s 3) (s 4) (s 5) (s 8) (s 24) (s 25) (s 26) (s 70) (s 71) (s 72) w) else (bif Nat.beq i 4 then (fun s w => s8_p5 K B1 B2 (s 3) (s 4) (s 5) (s 8) (s 24) (s 25) (s 26) (s 70) (s 71) (s 72) w) else (bif Nat.beq i 3 then (fun s w => s8_p2 K B1 (s 3) (s 4) (s 5) (s 24) (s 25) (s 26) w) else (bif Nat.beq i 2 then (fun s w => s8_p2 K B1 (s 3) (s 4) (s 5) (s 24) (s 25) (s 26) w) else (bif Nat.beq i 1 then (fun s w => s8_p2 K B1 (s 3) (s 4) (s 5) (s 24) (s 25) (s 26) w) else (bif Nat.beq i 0 then (fun s w => s8_p1 K w) else (fun _ _ => False)))))))))) (X' := (fun i => (bif Nat.beq i 6 then (s8_p6_den K (fun s w => B1 [s 3, s 4, s 5, s 24, s 25, s 26] w) (fun s w => B2 [s 3, s 4, s 5, s 8, s 24, s 25, s 26, s 70, s 71, s 72] w) (fun s w => B3 [s 3, s 4, s 5, s 8, s 11, s 12, s 13, s 24, s 25, s 26, s 70, s 71, s 72] w)) else (bif Nat.beq i 5 then (s8_p5_den K (fun s w => B1 [s 3, s 4, s 5, s 24, s 25, s 26] w) (fun s w => B2 [s 3, s 4, s 5, s 8, s 24, s 25, s 26, s 70, s 71, s 72] w)) else (bif Nat.beq i 4 then (s8_p5_den K (fun s w => B1 [s 3, s 4, s 5, s 24, s 25, s 26] w) (fun s w => B2 [s 3, s 4, s 5, s 8, s 24, s 25, s 26, s 70, s 71, s 72] w)) else (bif Nat.beq i 3 then (s8_p2_den K (fun s w => B1 [s 3, s 4, s 5, s 24, s 25, s 26] w)) else (bif Nat.beq i 2 then (s8_p2_den K (fun s w => B1 [s 3, s 4, s 5, s 24, s 25, s 26] w)) else (bif Nat.beq i 1 then (s8_p2_den K (fun s w => B1 [s 3, s 4, s 5, s 24, s 25, s 26] w)) else (bif Nat.beq i 0 then (s8_p1_den K) else (fun _ _ => False)))))))))) (R := s8_R K) (s := s) (w := w) (p := s8_p7 K B1 B2 B3 (s 3) (s 4) (s 5) (s 8) (s 11) (s 12) (s 13) (s 14) (s 24) (s 25) (s 26) (s 70) (s 71) (s 72) w) (q := s8_p7_den K (fun s w => B1 [s 3, s 4, s 5, s 24, s 25, s 26] w) (fun s w => B2 [s 3, s 4, s 5, s 8, s 24, s 25, s 26, s 70, s 71, s 72] w) (fun s w => B3 [s 3, s 4, s 5, s 8, s 11, s 12, s 13, s 24, s 25, s 26, s 70, s 71, s 72] w) s w) (fun s w h => s8_p6_ok K B1 B2 B3 s w @h) (fun i => (tr_bif (fun s w h => s8_p6_ok K B1 B2 B3 s w @h) (tr_bif (fun s w h => s8_p5_ok K B1 B2 s w @h) (tr_bif (fun s w h => s8_p5_ok K B1 B2 s w @h) (tr_bif (fun s w h => s8_p2_ok K B1 s w @h) (tr_bif (fun s w h => s8_p2_ok K B1 s w @h) (tr_bif (fun s w h => s8_p2_ok K B1 s w @h) (tr_bif (fun s w h => s8_p1_ok K s w @h) tr_id)))))))) (by kernel_rfl) (by kernel_rfl) @h
def s8_p8 (K : Value → World → Prop) (B1 : List Value → World → Prop) (B2 : List Value → World → Prop) (B3 : List Value → World → Prop) (B4 : List Value → World → Prop) (t3 t4 t5 t8 t11 t12 t13 t14 t24 t25 t26 t70 t71 t72 t94 t95 t96 : Value) (w : World) : Prop :=
  boI .add t96 (.int .i64 1) (fun t123 w =>
  B4 [t3, t4, t5, t8, t11, t12, t13, t14, t24, t25, t26, t70, t71, t72, t94, t95, t123] w) w
def s8_p8_den (K : Value → World → Prop) (M1 : (Nat → Value) → World → Prop) (M2 : (Nat → Value) → World → Prop) (M3 : (Nat → Value) → World → Prop) (M4 : (Nat → Value) → World → Prop) : (Nat → Value) → World → Prop := denL Try.prog [(cd (Try.f8.body.getD .skip) [1, 1, 1, 1, 0, 1, 0, 0, 1, 1, 0, 0, 1, 1, 1, 1, 1, 0, 1, 1, 1, 1, 1, 0, 1, 0, 0, 1, 1, 0, 0, 1, 1, 0, 0, 1, 0, 0, 1, 1, 0, 1, 0, 0, 1, 1, 1])] M4 (fun i => (bif Nat.beq i 7 then (s8_p7_den K M1 M2 M3) else (bif Nat.beq i 6 then (s8_p6_den K M1 M2 M3) else (bif Nat.beq i 5 then (s8_p5_den K M1 M2) else (bif Nat.beq i 4 then (s8_p5_den K M1 M2) else (bif Nat.beq i 3 then (s8_p2_den K M1) else (bif Nat.beq i 2 then (s8_p2_den K M1) else (bif Nat.beq i 1 then (s8_p2_den K M1) else (bif Nat.beq i 0 then (s8_p1_den K) else (fun _ _ => False)))))))))) (s8_R K)
theorem s8_p8_ok (K : Value → World → Prop) (B1 : List Value → World → Prop) (B2 : List Value → World → Prop) (B3 : List Value → World → Prop) (B4 : List Value → World → Prop) (s : Nat → Value) (w : World) (h : s8_p8 K B1 B2 B3 B4 (s 3) (s 4) (s 5) (s 8) (s 11) (s 12) (s 13) (s 14) (s 24) (s 25) (s 26) (s 70) (s 71) (s 72) (s 94) (s 95) (s 96) w) : Tr (s8_p8_den K (fun s w => B1 [s 3, s 4, s 5, s 24, s 25, s 26] w) (fun s w => B2 [s 3, s 4, s 5, s 8, s 24, s 25, s 26, s 70, s 71, s 72] w) (fun s w => B3 [s 3, s 4, s 5, s 8, s 11, s 12, s 13, s 24, s 25, s 26, s 70, s 71, s 72] w) (fun s w => B4 [s 3, s 4, s 5, s 8, s 11, s 12, s 13, s 14, s 24, s 25, s 26, s 70, s 71, s 72, s 94, s 95, s 96] w) s w) :=
  tr_simple (P := Try.prog) (codes := [(cd (Try.f8.body.getD .skip) [1, 1, 1, 1, 0, 1, 0, 0, 1, 1, 0, 0, 1, 1, 1, 1, 1, 0, 1, 1, 1, 1, 1, 0, 1, 0, 0, 1, 1, 0, 0, 1, 1, 0, 0, 1, 0, 0, 1, 1, 0, 1, 0, 0, 1, 1, 1])]) (N := (fun s w => B4 [s 3, s 4, s 5, s 8, s 11, s 12, s 13, s 14, s 24, s 25, s 26, s 70, s 71, s 72, s 94, s 95, s 96] w)) (N' := (fun s w => B4 [s 3, s 4, s 5, s 8, s 11, s 12, s 13, s 14, s 24, s 25, s 26, s 70, s 71, s 72, s 94, s 95, s 96] w)) (X := (fun i => (bif Nat.beq i 7 then (fun s w => s8_p7 K B1 B2 B3 (s 3) (s 4) (s 5) (s 8) (s 11) (s 12) (s 13) (s 14) (s 24) (s 25) (s 26) (s 70) (s 71) (s 72) w) else (bif Nat.beq i 6 then (fun s w => s8_p6 K B1 B2 B3 (s 3) (s 4) (s 5) (s 8) (s 11) (s 12) (s 13) (s 24) (s 25) (s 26) (s 70) (s 71) (s 72) w) else (bif Nat.beq i 5 then (fun s w => s8_p5 K B1 B2 (s 3) (s 4) (s 5) (s 8) (s 24) (s 25) (s 26) (s 70) (s 71) (s 72) w) else (bif Nat.beq i 4 then (fun s w => s8_p5 K B1 B2 (s 3) (s 4) (s 5) (s 8) (s 24) (s 25) (s 26) (s 70) (s 71) (s 72) w) else (bif Nat.beq i 3 then (fun s w => s8_p2 K B1 (s 3) (s 4) (s 5) (s 24) (s 25) (s 26) w) else (bif Nat.beq i 2 then (fun s w => s8_p2 K B1 (s 3) (s 4) (s 5) (s 24) (s 25) (s 26) w) else (bif Nat.beq i 1 then (fun s w => s8_p2 K B1 (s 3) (s 4) (s 5) (s 24) (s 25) (s 26) w) else (bif Nat.beq i 0 then (fun s w => s8_p1 K w) else (fun _ _ => False))))))))))) (X' := (fun i => (bif Nat.beq i 7 then (s8_p7_den K (fun s w => B1 [s 3, s 4, s 5, s 24, s 25, s 26] w) (fun s w => B2 [s 3, s 4, s 5, s 8, s 24, s 25, s 26, s 70, s 71, s 72] w) (fun s w => B3 [s 3, s 4, s 5, s 8, s 11, s 12, s 13, s 24, s 25, s 26, s 70, s 71, s 72] w)) else (bif Nat.beq i 6 then (s8_p6_den K (fun s w => B1 [s 3, s 4, s 5, s 24, s 25, s 26] w) (fun s w => B2 [s 3, s 4, s 5, s 8, s 24, s 25, s 26, s 70, s 71, s 72] w) (fun s w => B3 [s 3, s 4, s 5, s 8, s 11, s 12, s 13, s 24, s 25, s 26, s 70, s 71, s 72] w)) else (bif Nat.beq i 5 then (s8_p5_den K (fun s w => B1 [s 3, s 4, s 5, s 24, s 25, s 26] w) (fun s w => B2 [s 3, s 4, s 5, s 8, s 24, s 25, s 26, s 70, s 71, s 72] w)) else (bif Nat.beq i 4 then (s8_p5_den K (fun s w => B1 [s 3, s 4, s 5, s 24, s 25, s 26] w) (fun s w => B2 [s 3, s 4, s 5, s 8, s 24, s 25, s 26, s 70, s 71, s 72] w)) else (bif Nat.beq i 3 then (s8_p2_den K (fun s w => B1 [s 3, s 4, s 5, s 24, s 25, s 26] w)) else (bif Nat.beq i 2 then (s8_p2_den K (fun s w => B1 [s 3, s 4, s 5, s 24, s 25, s 26] w)) else (bif Nat.beq i 1 then (s8_p2_den K (fun s w => B1 [s 3, s 4, s 5, s 24, s 25, s 26] w)) else (bif Nat.beq i 0 then (s8_p1_den K) else (fun _ _ => False))))))))))) (R := s8_R K) (s := s) (w := w) (p := s8_p8 K B1 B2 B3 B4 (s 3) (s 4) (s 5) (s 8) (s 11) (s 12) (s 13) (s 14) (s 24) (s 25) (s 26) (s 70) (s 71) (s 72) (s 94) (s 95) (s 96) w) (q := s8_p8_den K (fun s w => B1 [s 3, s 4, s 5, s 24, s 25, s 26] w) (fun s w => B2 [s 3, s 4, s 5, s 8, s 24, s 25, s 26, s 70, s 71, s 72] w) (fun s w => B3 [s 3, s 4, s 5, s 8, s 11, s 12, s 13, s 24, s 25, s 26, s 70, s 71, s 72] w) (fun s w => B4 [s 3, s 4, s 5, s 8, s 11, s 12, s 13, s 14, s 24, s 25, s 26, s 70, s 71, s 72, s 94, s 95, s 96] w) s w) tr_id (fun i => (tr_bif (fun s w h => s8_p7_ok K B1 B2 B3 s w @h) (tr_bif (fun s w h => s8_p6_ok K B1 B2 B3 s w @h) (tr_bif (fun s w h => s8_p5_ok K B1 B2 s w @h) (tr_bif (fun s w h => s8_p5_ok K B1 B2 s w @h) (tr_bif (fun s w h => s8_p2_ok K B1 s w @h) (tr_bif (fun s w h => s8_p2_ok K B1 s w @h) (tr_bif (fun s w h => s8_p2_ok K B1 s w @h) (tr_bif (fun s w h => s8_p1_ok K s w @h) tr_id))))))))) (by kernel_rfl) (by kernel_rfl) @h
def s8_p9 (K : Value → World → Prop) (B1 : List Value → World → Prop) (B2 : List Value → World → Prop) (B3 : List Value → World → Prop) (B4 : List Value → World → Prop) (t3 t4 t5 t8 t11 t12 t13 t14 t24 t25 t26 t70 t71 t72 t94 t95 t96 : Value) (w : World) : Prop :=
  boI .lss t96 t95 (fun t97 w =>
  ifb t97
  (ixs 3 t94 t96 (fun t98 w =>
  ldn 3 t98 (fun t99 w =>
  nw 72 #[(.int .i64 0), (.int .i64 0), (.int .i64 0)] (fun t16 w =>
  stn 3 t16 t99 (fun w =>
  fd 0 t16 (fun t100 w =>
  ld1 t100 (fun t101 w =>
  boI .eql t101 t11 (fun t103 w =>
  gd t103 true (fd 1 t16) (fun t105 w =>
  gd t103 true (ld1 t105) (fun t106 w =>
  gd t103 true (fun K w => K t13 w) (fun t107 w =>
  gd t103 true (boI .leq t106 t107) (fun t108 w =>
  pk t103 t108 (.bool false) (fun t109 w =>
  gd t109 true (fun K w => K t13 w) (fun t111 w =>
  gd t109 true (fd 1 t16) (fun t112 w =>
  gd t109 true (ld1 t112) (fun t113 w =>
  gd t109 true (fd 1 t12) (fun t114 w =>
  gd t109 true (ld1 t114) (fun t115 w =>
  gd t109 true (boI .add t113 t115) (fun t116 w =>
  gd t109 true (boI .lss t111 t116) (fun t117 w =>
  pk t109 t117 (.bool false) (fun t118 w =>
  ifb t118
  (fd 2 t16 (fun t120 w =>
  ld1 t120 (fun t121 w =>
  boI .add t14 t121 (fun t122 w =>
  s8_p8 K B1 B2 B3 B4 t3 t4 t5 t8 t11 t12 t13 t122 t24 t25 t26 t70 t71 t72 t94 t95 t96 w) w) w) w)
  (s8_p8 K B1 B2 B3 B4 t3 t4 t5 t8 t11 t12 t13 t14 t24 t25 t26 t70 t71 t72 t94 t95 t96 w)) w) w) w) w) w) w) w) w) w) w) w) w) w) w) w) w) w) w) w) w)
  (s8_p7 K B1 B2 B3 t3 t4 t5 t8 t11 t12 t13 t14 t24 t25 t26 t70 t71 t72 w)) w
def s8_p9_den (K : Value → World → Prop) (M1 : (Nat → Value) → World → Prop) (M2 : (Nat → Value) → World → Prop) (M3 : (Nat → Value) → World → Prop) (M4 : (Nat → Value) → World → Prop) : (Nat → Value) → World → Prop := denL Try.prog [(cd (Try.f8.body.getD .skip) [1, 1, 1, 1, 0, 1, 0, 0, 1, 1, 0, 0, 1, 1, 1, 1, 1, 0, 1, 1, 1, 1, 1, 0, 1, 0, 0, 1, 1, 0, 0, 1, 1, 0, 0, 1, 0, 0, 1, 1, 0, 1, 0, 0, 0]), (cd (Try.f8.body.getD .skip) [1, 1, 1, 1, 0, 1, 0, 0, 1, 1, 0, 0, 1, 1, 1, 1, 1, 0, 1, 1, 1, 1, 1, 0, 1, 0, 0, 1, 1, 0, 0, 1, 1, 0, 0, 1, 0, 0, 1, 1, 0, 1, 0, 0, 1, 0]), (cd (Try.f8.body.getD .skip) [1, 1, 1, 1, 0, 1, 0, 0, 1, 1, 0, 0, 1, 1, 1, 1, 1, 0, 1, 1, 1, 1, 1, 0, 1, 0, 0, 1, 1, 0, 0, 1, 1, 0, 0, 1, 0, 0, 1, 1, 0, 1, 0, 0, 1, 1, 0])] (s8_p8_den K M1 M2 M3 M4) (fun i => (bif Nat.beq i 7 then (s8_p7_den K M1 M2 M3) else (bif Nat.beq i 6 then (s8_p6_den K M1 M2 M3) else (bif Nat.beq i 5 then (s8_p5_den K M1 M2) else (bif Nat.beq i 4 then (s8_p5_den K M1 M2) else (bif Nat.beq i 3 then (s8_p2_den K M1) else (bif Nat.beq i 2 then (s8_p2_den K M1) else (bif Nat.beq i 1 then (s8_p2_den K M1) else (bif Nat.beq i 0 then (s8_p1_den K) else (fun _ _ => False)))))))))) (s8_R K)
theorem s8_p9_ok (K : Value → World → Prop) (B1 : List Value → World → Prop) (B2 : List Value → World → Prop) (B3 : List Value → World → Prop) (B4 : List Value → World → Prop) (s : Nat → Value) (w : World) (h : s8_p9 K B1 B2 B3 B4 (s 3) (s 4) (s 5) (s 8) (s 11) (s 12) (s 13) (s 14) (s 24) (s 25) (s 26) (s 70) (s 71) (s 72) (s 94) (s 95) (s 96) w) : Tr (s8_p9_den K (fun s w => B1 [s 3, s 4, s 5, s 24, s 25, s 26] w) (fun s w => B2 [s 3, s 4, s 5, s 8, s 24, s 25, s 26, s 70, s 71, s 72] w) (fun s w => B3 [s 3, s 4, s 5, s 8, s 11, s 12, s 13, s 24, s 25, s 26, s 70, s 71, s 72] w) (fun s w => B4 [s 3, s 4, s 5, s 8, s 11, s 12, s 13, s 14, s 24, s 25, s 26, s 70, s 71, s 72, s 94, s 95, s 96] w) s w) :=
  tr_simple (P := Try.prog) (codes := [(cd (Try.f8.body.getD .skip) [1, 1, 1, 1, 0, 1, 0, 0, 1, 1, 0, 0, 1, 1, 1, 1, 1, 0, 1, 1, 1, 1, 1, 0, 1, 0, 0, 1, 1, 0, 0, 1, 1, 0, 0, 1, 0, 0, 1, 1, 0, 1, 0, 0, 0]), (cd (Try.f8.body.getD .skip) [1, 1, 1, 1, 0, 1, 0, 0, 1, 1, 0, 0, 1, 1, 1, 1, 1, 0, 1, 1, 1, 1, 1, 0, 1, 0, 0, 1, 1, 0, 0, 1, 1, 0, 0, 1, 0, 0, 1, 1, 0, 1, 0, 0, 1, 0]), (cd (Try.f8.body.getD .skip) [1, 1, 1, 1, 0, 1, 0, 0, 1, 1, 0, 0, 1, 1, 1, 1, 1, 0, 1, 1, 1, 1, 1, 0, 1, 0, 0, 1, 1, 0, 0, 1, 1, 0, 0, 1, 0, 0, 1, 1, 0, 1, 0, 0, 1, 1, 0])]) (N := (fun s w => s8_p8 K B1 B2 B3 B4 (s 3) (s 4) (s 5) (s 8) (s 11) (s 12) (s 13) (s 14) (s 24) (s 25) (s 26) (s 70) (s 71) (s 72) (s 94) (s 95) (s 96) w)) (N' := (s8_p8_den K (fun s w => B1 [s 3, s 4, s 5, s 24, s 25, s 26] w) (fun s w => B2 [s 3, s 4, s 5, s 8, s 24, s 25, s 26, s 70, s 71, s 72] w) (fun s w => B3 [s 3, s 4, s 5, s 8, s 11, s 12, s 13, s 24, s 25, s 26, s 70, s 71, s 72] w) (fun s w => B4 [s 3, s 4, s 5, s 8, s 11, s 12, s 13, s 14, s 24, s 25, s 26, s 70, s 71, s 72, s 94, s 95, s 96] w))) (X := (fun i => (bif Nat.beq i 7 then (fun s w => s8_p7 K B1 B2 B3 (s 3) (s 4) (s 5) (s 8) (s 11) (s 12) (s 13) (s 14) (s 24) (s 25) (s 26) (s 70) (s 71) (s 72) w) else (bif Nat.beq i 6 then (fun s w => s8_p6 K B1 B2 B3 (s 3) (s 4) (s 5) (s 8) (s 11) (s 12) (s 13) (s 24) (s 25) (s 26) (s 70) (s 71) (s 72) w) else (bif Nat.beq i 5 then (fun s w => s8_p5 K B1 B2 (s 3) (s 4) (s 5) (s 8) (s 24) (s 25) (s 26) (s 70) (s 71) (s 72) w) else (bif Nat.beq i 4 then (fun s w => s8_p5 K B1 B2 (s 3) (s 4) (s 5) (s 8) (s 24) (s 25) (s 26) (s 70) (s 71) (s 72) w) else (bif Nat.beq i 3 then (fun s w => s8_p2 K B1 (s 3) (s 4) (s 5) (s 24) (s 25) (s 26) w) else (bif Nat.beq i 2 then (fun s w => s8_p2 K B1 (s 3) (s 4) (s 5) (s 24) (s 25) (s 26) w) else (bif Nat.beq i 1 then (fun s w => s8_p2 K B1 (s 3) (s 4) (s 5) (s 24) (s 25) (s 26) w) else (bif Nat.beq i 0 then (fun s w => s8_p1 K w) else (fun _ _ => False))))))))))) (X' := (fun i => (bif Nat.beq i 7 then (s8_p7_den K (fun s w => B1 [s 3, s 4, s 5, s 24, s 25, s 26] w) (fun s w => B2 [s 3, s 4, s 5, s 8, s 24, s 25, s 26, s 70, s 71, s 72] w) (fun s w => B3 [s 3, s 4, s 5, s 8, s 11, s 12, s 13, s 24, s 25, s 26, s 70, s 71, s 72] w)) else (bif Nat.beq i 6 then (s8_p6_den K (fun s w => B1 [s 3, s 4, s 5, s 24, s 25, s 26] w) (fun s w => B2 [s 3, s 4, s 5, s 8, s 24, s 25, s 26, s 70, s 71, s 72] w) (fun s w => B3 [s 3, s 4, s 5, s 8, s 11, s 12, s 13, s 24, s 25, s 26, s 70, s 71, s 72] w)) else (bif Nat.beq i 5 then (s8_p5_den K (fun s w => B1 [s 3, s 4, s 5, s 24, s 25, s 26] w) (fun s w => B2 [s 3, s 4, s 5, s 8, s 24, s 25, s 26, s 70, s 71, s 72] w)) else (bif Nat.beq i 4 then (s8_p5_den K (fun s w => B1 [s 3, s 4, s 5, s 24, s 25, s 26] w) (fun s w => B2 [s 3, s 4, s 5, s 8, s 24, s 25, s 26, s 70, s 71, s 72] w)) else (bif Nat.beq i 3 then (s8_p2_den K (fun s w => B1 [s 3, s 4, s 5, s 24, s 25, s 26] w)) else (bif Nat.beq i 2 then (s8_p2_den K (fun s w => B1 [s 3, s 4, s 5, s 24, s 25, s 26] w)) else (bif Nat.beq i 1 then (s8_p2_den K (fun s w => B1 [s 3, s 4, s 5, s 24, s 25, s 26] w)) else (bif Nat.beq i 0 then (s8_p1_den K) else (fun _ _ => False))))))))))) (R := s8_R K) (s := s) (w := w) (p := s8_p9 K B1 B2 B3 B4 (s 3) (s 4) (s 5) (s 8) (s 11) (s 12) (s 13) (s 14) (s 24) (s 25) (s 26) (s 70) (s 71) (s 72) (s 94) (s 95) (s 96) w) (q := s8_p9_den K (fun s w => B1 [s 3, s 4, s 5, s 24, s 25, s 26] w) (fun s w => B2 [s 3, s 4, s 5, s 8, s 24, s 25, s 26, s 70, s 71, s 72] w) (fun s w => B3 [s 3, s 4, s 5, s 8, s 11, s 12, s 13, s 24, s 25, s 26, s 70, s 71, s 72] w) (fun s w => B4 [s 3, s 4, s 5, s 8, s 11, s 12, s 13, s 14, s 24, s 25, s 26, s 70, s 71, s 72, s 94, s 95, s 96] w) s w) (fun s w h => s8_p8_ok K B1 B2 B3 B4 s w @h) (fun i => (tr_bif (fun s w h => s8_p7_ok K B1 B2 B3 s w @h) (tr_bif (fun s w h => s8_p6_ok K B1 B2 B3 s w @h) (tr_bif (fun s w h => s8_p5_ok K B1 B2 s w @h) (tr_bif (fun s w h => s8_p5_ok K B1 B2 s w @h) (tr_bif (fun s w h => s8_p2_ok K B1 s w @h) (tr_bif (fun s w h => s8_p2_ok K B1 s w @h) (tr_bif (fun s w h => s8_p2_ok K B1 s w @h) (tr_bif (fun s w h => s8_p1_ok K s w @h) tr_id))))))))) (by kernel_rfl) (by kernel_rfl) @h
def s8_p10_F (K : Value → World → Prop) (B1 : List Value → World → Prop) (B2 : List Value → World → Prop) (B3 : List Value → World → Prop) (B4 : List Value → World → Prop) (l : List Value) (w : World) : Prop :=
  match l with
  | [t3, t4, t5, t8, t11, t12, t13, t14, t24, t25, t26, t70, t71, t72, t94, t95, t96] => s8_p9 K B1 B2 B3 B4 t3 t4 t5 t8 t11 t12 t13 t14 t24 t25 t26 t70 t71 t72 t94 t95 t96 w
  | _ => False
theorem s8_p10_Fe {K : Value → World → Prop} {B1 : List Value → World → Prop} {B2 : List Value → World → Prop} {B3 : List Value → World → Prop} {B4 : List Value → World → Prop} {t3 t4 t5 t8 t11 t12 t13 t14 t24 t25 t26 t70 t71 t72 t94 t95 t96 : Value} {w : World} : s8_p10_F K B1 B2 B3 B4 [t3, t4, t5, t8, t11, t12, t13, t14, t24, t25, t26, t70, t71, t72, t94, t95, t96] w = s8_p9 K B1 B2 B3 B4 t3 t4 t5 t8 t11 t12 t13 t14 t24 t25 t26 t70 t71 t72 t94 t95 t96 w := by kernel_rfl
def s8_p10 (K : Value → World → Prop) (B1 : List Value → World → Prop) (B2 : List Value → World → Prop) (B3 : List Value → World → Prop) (t3 t4 t5 t8 t11 t12 t13 t14 t24 t25 t26 t70 t71 t72 t94 t95 t96 : Value) (w : World) : Prop :=
  LoopL (s8_p10_F K B1 B2 B3) [t3, t4, t5, t8, t11, t12, t13, t14, t24, t25, t26, t70, t71, t72, t94, t95, t96] w
def s8_p10_den (K : Value → World → Prop) (M1 : (Nat → Value) → World → Prop) (M2 : (Nat → Value) → World → Prop) (M3 : (Nat → Value) → World → Prop) : (Nat → Value) → World → Prop := fun s w => LoopP (fun M4 s w => s8_p9_den K M1 M2 M3 M4 s w) s w
theorem s8_p10_ok (K : Value → World → Prop) (B1 : List Value → World → Prop) (B2 : List Value → World → Prop) (B3 : List Value → World → Prop) (s : Nat → Value) (w : World) (h : s8_p10 K B1 B2 B3 (s 3) (s 4) (s 5) (s 8) (s 11) (s 12) (s 13) (s 14) (s 24) (s 25) (s 26) (s 70) (s 71) (s 72) (s 94) (s 95) (s 96) w) : Tr (s8_p10_den K (fun s w => B1 [s 3, s 4, s 5, s 24, s 25, s 26] w) (fun s w => B2 [s 3, s 4, s 5, s 8, s 24, s 25, s 26, s 70, s 71, s 72] w) (fun s w => B3 [s 3, s 4, s 5, s 8, s 11, s 12, s 13, s 24, s 25, s 26, s 70, s 71, s 72] w) s w) :=
  tr_loop (G := fun N' s w => s8_p9_den K (fun s w => B1 [s 3, s 4, s 5, s 24, s 25, s 26] w) (fun s w => B2 [s 3, s 4, s 5, s 8, s 24, s 25, s 26, s 70, s 71, s 72] w) (fun s w => B3 [s 3, s 4, s 5, s 8, s 11, s 12, s 13, s 24, s 25, s 26, s 70, s 71, s 72] w) N' s w) (F := s8_p10_F K B1 B2 B3) (sel := fun s => [s 3, s 4, s 5, s 8, s 11, s 12, s 13, s 14, s 24, s 25, s 26, s 70, s 71, s 72, s 94, s 95, s 96]) (s := s) (w := w) (p := s8_p10 K B1 B2 B3 (s 3) (s 4) (s 5) (s 8) (s 11) (s 12) (s 13) (s 14) (s 24) (s 25) (s 26) (s 70) (s 71) (s 72) (s 94) (s 95) (s 96) w) (q := s8_p10_den K (fun s w => B1 [s 3, s 4, s 5, s 24, s 25, s 26] w) (fun s w => B2 [s 3, s 4, s 5, s 8, s 24, s 25, s 26, s 70, s 71, s 72] w) (fun s w => B3 [s 3, s 4, s 5, s 8, s 11, s 12, s 13, s 24, s 25, s 26, s 70, s 71, s 72] w) s w) (fun B s w h => s8_p9_ok K B1 B2 B3 B s w @h) (by kernel_rfl) (by kernel_rfl) @h
def s8_p11 (K : Value → World → Prop) (B1 : List Value → World → Prop) (B2 : List Value → World → Prop) (B3 : List Value → World → Prop) (t3 t4 t5 t8 t11 t12 t13 t24 t25 t26 t70 t71 t72 : Value) (w : World) : Prop :=
  fd 0 t5 (fun t90 w =>
  ld1 t90 (fun t91 w =>
  boI .add t8 t91 (fun t92 w =>
  boI .lss t13 t92 (fun t93 w =>
  ifb t93
  (s8_p6 K B1 B2 B3 t3 t4 t5 t8 t11 t12 t13 t24 t25 t26 t70 t71 t72 w)
  (lnS t3 (fun t95 w =>
  s8_p10 K B1 B2 B3 t3 t4 t5 t8 t11 t12 t13 (.int .i64 0) t24 t25 t26 t70 t71 t72 t3 t95 (.int .i64 0) w) w)) w) w) w) w
def s8_p11_den (K : Value → World → Prop) (M1 : (Nat → Value) → World → Prop) (M2 : (Nat → Value) → World → Prop) (M3 : (Nat → Value) → World → Prop) : (Nat → Value) → World → Prop := denL Try.prog [(cd (Try.f8.body.getD .skip) [1, 1, 1, 1, 0, 1, 0, 0, 1, 1, 0, 0, 1, 1, 1, 1, 1, 0, 1, 1, 1, 1, 1, 0, 1, 0, 0, 1, 1, 0, 0, 1, 1, 0, 0, 1, 0, 0, 0, 0]), (cd (Try.f8.body.getD .skip) [1, 1, 1, 1, 0, 1, 0, 0, 1, 1, 0, 0, 1, 1, 1, 1, 1, 0, 1, 1, 1, 1, 1, 0, 1, 0, 0, 1, 1, 0, 0, 1, 1, 0, 0, 1, 0, 0, 0, 1]), (cd (Try.f8.body.getD .skip) [1, 1, 1, 1, 0, 1, 0, 0, 1, 1, 0, 0, 1, 1, 1, 1, 1, 0, 1, 1, 1, 1, 1, 0, 1, 0, 0, 1, 1, 0, 0, 1, 1, 0, 0, 1, 0, 0, 1, 0]), (cd (Try.f8.body.getD .skip) [1, 1, 1, 1, 0, 1, 0, 0, 1, 1, 0, 0, 1, 1, 1, 1, 1, 0, 1, 1, 1, 1, 1, 0, 1, 0, 0, 1, 1, 0, 0, 1, 1, 0, 0, 1, 0, 0, 1, 1, 0, 0])] (s8_p10_den K M1 M2 M3) (fun i => (bif Nat.beq i 6 then (s8_p6_den K M1 M2 M3) else (bif Nat.beq i 5 then (s8_p5_den K M1 M2) else (bif Nat.beq i 4 then (s8_p5_den K M1 M2) else (bif Nat.beq i 3 then (s8_p2_den K M1) else (bif Nat.beq i 2 then (s8_p2_den K M1) else (bif Nat.beq i 1 then (s8_p2_den K M1) else (bif Nat.beq i 0 then (s8_p1_den K) else (fun _ _ => False))))))))) (s8_R K)
theorem s8_p11_ok (K : Value → World → Prop) (B1 : List Value → World → Prop) (B2 : List Value → World → Prop) (B3 : List Value → World → Prop) (s : Nat → Value) (w : World) (h : s8_p11 K B1 B2 B3 (s 3) (s 4) (s 5) (s 8) (s 11) (s 12) (s 13) (s 24) (s 25) (s 26) (s 70) (s 71) (s 72) w) : Tr (s8_p11_den K (fun s w => B1 [s 3, s 4, s 5, s 24, s 25, s 26] w) (fun s w => B2 [s 3, s 4, s 5, s 8, s 24, s 25, s 26, s 70, s 71, s 72] w) (fun s w => B3 [s 3, s 4, s 5, s 8, s 11, s 12, s 13, s 24, s 25, s 26, s 70, s 71, s 72] w) s w) :=
  tr_simple (P := Try.prog) (codes := [(cd (Try.f8.body.getD .skip) [1, 1, 1, 1, 0, 1, 0, 0, 1, 1, 0, 0, 1, 1, 1, 1, 1, 0, 1, 1, 1, 1, 1, 0, 1, 0, 0, 1, 1, 0, 0, 1, 1, 0, 0, 1, 0, 0, 0, 0]), (cd (Try.f8.body.getD .skip) [1, 1, 1, 1, 0, 1, 0, 0, 1, 1, 0, 0, 1, 1, 1, 1, 1, 0, 1, 1, 1, 1, 1, 0, 1, 0, 0, 1, 1, 0, 0, 1, 1, 0, 0, 1, 0, 0, 0, 1]), (cd (Try.f8.body.getD .skip) [1, 1, 1, 1, 0, 1, 0, 0, 1, 1, 0, 0, 1, 1, 1, 1, 1, 0, 1, 1, 1, 1, 1, 0, 1, 0, 0, 1, 1, 0, 0, 1, 1, 0, 0, 1, 0, 0, 1, 0]), (cd (Try.f8.body.getD .skip) [1, 1, 1, 1, 0, 1, 0, 0, 1, 1, 0, 0, 1, 1, 1, 1, 1, 0, 1, 1, 1, 1, 1, 0, 1, 0, 0, 1, 1, 0, 0, 1, 1, 0, 0, 1, 0, 0, 1, 1, 0, 0])]) (N := (fun s w => s8_p10 K B1 B2 B3 (s 3) (s 4) (s 5) (s 8) (s 11) (s 12) (s 13) (s 14) (s 24) (s 25) (s 26) (s 70) (s 71) (s 72) (s 94) (s 95) (s 96) w)) (N' := (s8_p10_den K (fun s w => B1 [s 3, s 4, s 5, s 24, s 25, s 26] w) (fun s w => B2 [s 3, s 4, s 5, s 8, s 24, s 25, s 26, s 70, s 71, s 72] w) (fun s w => B3 [s 3, s 4, s 5, s 8, s 11, s 12, s 13, s 24, s 25, s 26, s 70, s 71, s 72] w))) (X := (fun i => (bif Nat.beq i 6 then (fun s w => s8_p6 K B1 B2 B3 (s 3) (s 4) (s 5) (s 8) (s 11) (s 12) (s 13) (s 24) (s 25) (s 26) (s 70) (s 71) (s 72) w) else (bif Nat.beq i 5 then (fun s w => s8_p5 K B1 B2 (s 3) (s 4) (s 5) (s 8) (s 24) (s 25) (s 26) (s 70) (s 71) (s 72) w) else (bif Nat.beq i 4 then (fun s w => s8_p5 K B1 B2 (s 3) (s 4) (s 5) (s 8) (s 24) (s 25) (s 26) (s 70) (s 71) (s 72) w) else (bif Nat.beq i 3 then (fun s w => s8_p2 K B1 (s 3) (s 4) (s 5) (s 24) (s 25) (s 26) w) else (bif Nat.beq i 2 then (fun s w => s8_p2 K B1 (s 3) (s 4) (s 5) (s 24) (s 25) (s 26) w) else (bif Nat.beq i 1 then (fun s w => s8_p2 K B1 (s 3) (s 4) (s 5) (s 24) (s 25) (s 26) w) else (bif Nat.beq i 0 then (fun s w => s8_p1 K w) else (fun _ _ => False)))))))))) (X' := (fun i => (bif Nat.beq i 6 then (s8_p6_den K (fun s w => B1 [s 3, s 4, s 5, s 24, s 25, s 26] w) (fun s w => B2 [s 3, s 4, s 5, s 8, s 24, s 25, s 26, s 70, s 71, s 72] w) (fun s w => B3 [s 3, s 4, s 5, s 8, s 11, s 12, s 13, s 24, s 25, s 26, s 70, s 71, s 72] w)) else (bif Nat.beq i 5 then (s8_p5_den K (fun s w => B1 [s 3, s 4, s 5, s 24, s 25, s 26] w) (fun s w => B2 [s 3, s 4, s 5, s 8, s 24, s 25, s 26, s 70, s 71, s 72] w)) else (bif Nat.beq i 4 then (s8_p5_den K (fun s w => B1 [s 3, s 4, s 5, s 24, s 25, s 26] w) (fun s w => B2 [s 3, s 4, s 5, s 8, s 24, s 25, s 26, s 70, s 71, s 72] w)) else (bif Nat.beq i 3 then (s8_p2_den K (fun s w => B1 [s 3, s 4, s 5, s 24, s 25, s 26] w)) else (bif Nat.beq i 2 then (s8_p2_den K (fun s w => B1 [s 3, s 4, s 5, s 24, s 25, s 26] w)) else (bif Nat.beq i 1 then (s8_p2_den K (fun s w => B1 [s 3, s 4, s 5, s 24, s 25, s 26] w)) else (bif Nat.beq i 0 then (s8_p1_den K) else (fun _ _ => False)))))))))) (R := s8_R K) (s := s) (w := w) (p := s8_p11 K B1 B2 B3 (s 3) (s 4) (s 5) (s 8) (s 11) (s 12) (s 13) (s 24) (s 25) (s 26) (s 70) (s 71) (s 72) w) (q := s8_p11_den K (fun s w => B1 [s 3, s 4, s 5, s 24, s 25, s 26] w) (fun s w => B2 [s 3, s 4, s 5, s 8, s 24, s 25, s 26, s 70, s 71, s 72] w) (fun s w => B3 [s 3, s 4, s 5, s 8, s 11, s 12, s 13, s 24, s 25, s 26, s 70, s 71, s 72] w) s w) (fun s w h => s8_p10_ok K B1 B2 B3 s w @h) (fun i => (tr_bif (fun s w h => s8_p6_ok K B1 B2 B3 s w @h) (tr_bif (fun s w h => s8_p5_ok K B1 B2 s w @h) (tr_bif (fun s w h => s8_p5_ok K B1 B2 s w @h) (tr_bif (fun s w h => s8_p2_ok K B1 s w @h) (tr_bif (fun s w h => s8_p2_ok K B1 s w @h) (tr_bif (fun s w h => s8_p2_ok K B1 s w @h) (tr_bif (fun s w h => s8_p1_ok K s w @h) tr_id)))))))) (by kernel_rfl) (by kernel_rfl) @h
def s8_p12 (K : Value → World → Prop) (B1 : List Value → World → Prop) (B2 : List Value → World → Prop) (B3 : List Value → World → Prop) (t3 t4 t5 t8 t11 t12 t13 t24 t25 t26 t70 t71 t72 t85 : Value) (w : World) : Prop :=
  ifb t85
  (s8_p11 K B1 B2 B3 t3 t4 t5 t8 t11 t12 t13 t24 t25 t26 t70 t71 t72 w)
  (s8_p5 K B1 B2 t3 t4 t5 t8 t24 t25 t26 t70 t71 t72 w)
def s8_p12_den (K : Value → World → Prop) (M1 : (Nat → Value) → World → Prop) (M2 : (Nat → Value) → World → Prop) (M3 : (Nat → Value) → World → Prop) : (Nat → Value) → World → Prop := denL Try.prog [(cd (Try.f8.body.getD .skip) [1, 1, 1, 1, 0, 1, 0, 0, 1, 1, 0, 0, 1, 1, 1, 1, 1, 0, 1, 1, 1, 1, 1, 0, 1, 0, 0, 1, 1, 0, 0, 1, 1, 0, 0, 0, 1])] (s8_p11_den K M1 M2 M3) (fun i => (bif Nat.beq i 5 then (s8_p5_den K M1 M2) else (bif Nat.beq i 4 then (s8_p5_den K M1 M2) else (bif Nat.beq i 3 then (s8_p2_den K M1) else (bif Nat.beq i 2 then (s8_p2_den K M1) else (bif Nat.beq i 1 then (s8_p2_den K M1) else (bif Nat.beq i 0 then (s8_p1_den K) else (fun _ _ => False)))))))) (s8_R K)
theorem s8_p12_ok (K : Value → World → Prop) (B1 : List Value → World → Prop) (B2 : List Value → World → Prop) (B3 : List Value → World → Prop) (s : Nat → Value) (w : World) (h : s8_p12 K B1 B2 B3 (s 3) (s 4) (s 5) (s 8) (s 11) (s 12) (s 13) (s 24) (s 25) (s 26) (s 70) (s 71) (s 72) (s 85) w) : Tr (s8_p12_den K (fun s w => B1 [s 3, s 4, s 5, s 24, s 25, s 26] w) (fun s w => B2 [s 3, s 4, s 5, s 8, s 24, s 25, s 26, s 70, s 71, s 72] w) (fun s w => B3 [s 3, s 4, s 5, s 8, s 11, s 12, s 13, s 24, s 25, s 26, s 70, s 71, s 72] w) s w) :=
  tr_simple (P := Try.prog) (codes := [(cd (Try.f8.body.getD .skip) [1, 1, 1, 1, 0, 1, 0, 0, 1, 1, 0, 0, 1, 1, 1, 1, 1, 0, 1, 1, 1, 1, 1, 0, 1, 0, 0, 1, 1, 0, 0, 1, 1, 0, 0, 0, 1])]) (N := (fun s w => s8_p11 K B1 B2 B3 (s 3) (s 4) (s 5) (s 8) (s 11) (s 12) (s 13) (s 24) (s 25) (s 26) (s 70) (s 71) (s 72) w)) (N' := (s8_p11_den K (fun s w => B1 [s 3, s 4, s 5, s 24, s 25, s 26] w) (fun s w => B2 [s 3, s 4, s 5, s 8, s 24, s 25, s 26, s 70, s 71, s 72] w) (fun s w => B3 [s 3, s 4, s 5, s 8, s 11, s 12, s 13, s 24, s 25, s 26, s 70, s 71, s 72] w))) (X := (fun i => (bif Nat.beq i 5 then (fun s w => s8_p5 K B1 B2 (s 3) (s 4) (s 5) (s 8) (s 24) (s 25) (s 26) (s 70) (s 71) (s 72) w) else (bif Nat.beq i 4 then (fun s w => s8_p5 K B1 B2 (s 3) (s 4) (s 5) (s 8) (s 24) (s 25) (s 26) (s 70) (s 71) (s 72) w) else (bif Nat.beq i 3 then (fun s w => s8_p2 K B1 (s 3) (s 4) (s 5) (s 24) (s 25) (s 26) w) else (bif Nat.beq i 2 then (fun s w => s8_p2 K B1 (s 3) (s 4) (s 5) (s 24) (s 25) (s 26) w) else (bif Nat.beq i 1 then (fun s w => s8_p2 K B1 (s 3) (s 4) (s 5) (s 24) (s 25) (s 26) w) else (bif Nat.beq i 0 then (fun s w => s8_p1 K w) else (fun _ _ => False))))))))) (X' := (fun i => (bif Nat.beq i 5 then (s8_p5_den K (fun s w => B1 [s 3, s 4, s 5, s 24, s 25, s 26] w) (fun s w => B2 [s 3, s 4, s 5, s 8, s 24, s 25, s 26, s 70, s 71, s 72] w)) else (bif Nat.beq i 4 then (s8_p5_den K (fun s w => B1 [s 3, s 4, s 5, s 24, s 25, s 26] w) (fun s w => B2 [s 3, s 4, s 5, s 8, s 24, s 25, s 26, s 70, s 71, s 72] w)) else (bif Nat.beq i 3 then (s8_p2_den K (fun s w => B1 [s 3, s 4, s 5, s 24, s 25, s 26] w)) else (bif Nat.beq i 2 then (s8_p2_den K (fun s w => B1 [s 3, s 4, s 5, s 24, s 25, s 26] w)) else (bif Nat.beq i 1 then (s8_p2_den K (fun s w => B1 [s 3, s 4, s 5, s 24, s 25, s 26] w)) else (bif Nat.beq i 0 then (s8_p1_den K) else (fun _ _ => False))))))))) (R := s8_R K) (s := s) (w := w) (p := s8_p12 K B1 B2 B3 (s 3) (s 4) (s 5) (s 8) (s 11) (s 12) (s 13) (s 24) (s 25) (s 26) (s 70) (s 71) (s 72) (s 85) w) (q := s8_p12_den K (fun s w => B1 [s 3, s 4, s 5, s 24, s 25, s 26] w) (fun s w => B2 [s 3, s 4, s 5, s 8, s 24, s 25, s 26, s 70, s 71, s 72] w) (fun s w => B3 [s 3, s 4, s 5, s 8, s 11, s 12, s 13, s 24, s 25, s 26, s 70, s 71, s 72] w) s w) (fun s w h => s8_p11_ok K B1 B2 B3 s w @h) (fun i => (tr_bif (fun s w h => s8_p5_ok K B1 B2 s w @h) (tr_bif (fun s w h => s8_p5_ok K B1 B2 s w @h) (tr_bif (fun s w h => s8_p2_ok K B1 s w @h) (tr_bif (fun s w h => s8_p2_ok K B1 s w @h) (tr_bif (fun s w h => s8_p2_ok K B1 s w @h) (tr_bif (fun s w h => s8_p1_ok K s w @h) tr_id))))))) (by kernel_rfl) (by kernel_rfl) @h
def s8_p13_d (K : Value → World → Prop) (B1 : List Value → World → Prop) (B2 : List Value → World → Prop) (B3 : List Value → World → Prop) (t3 t4 t5 t8 t11 t12 t13 t24 t25 t26 t70 t71 t72 : Value) (w0 w : World) : Prop :=
  fd 0 t5 (fun t82 _ =>
  ld1 t82 (fun t83 _ =>
  cl Try.prog 31 #[t4] (fun t81 w =>
  Below w0.heap.size w0 w ∧
  boI .add t81 t83 (fun t84 w =>
  Below w0.heap.size w0 w ∧
  boI .lss t13 t84 (fun t85 w =>
  s8_p12 K B1 B2 B3 t3 t4 t5 t8 t11 t12 t13 t24 t25 t26 t70 t71 t72 t85 w) w) w) w) w0) w0
def s8_p13 (K : Value → World → Prop) (B1 : List Value → World → Prop) (B2 : List Value → World → Prop) (B3 : List Value → World → Prop) (t3 t4 t5 t8 t11 t12 t13 t24 t25 t26 t70 t71 t72 : Value) (w : World) : Prop := s8_p13_d K B1 B2 B3 t3 t4 t5 t8 t11 t12 t13 t24 t25 t26 t70 t71 t72 (drw w) (drw w)
def s8_p13_den (K : Value → World → Prop) (M1 : (Nat → Value) → World → Prop) (M2 : (Nat → Value) → World → Prop) (M3 : (Nat → Value) → World → Prop) : (Nat → Value) → World → Prop := denL Try.prog [(cd (Try.f8.body.getD .skip) [1, 1, 1, 1, 0, 1, 0, 0, 1, 1, 0, 0, 1, 1, 1, 1, 1, 0, 1, 1, 1, 1, 1, 0, 1, 0, 0, 1, 1, 0, 0, 1, 1, 0, 0, 0, 0])] (s8_p12_den K M1 M2 M3) (fun i => (bif Nat.beq i 5 then (s8_p5_den K M1 M2) else (bif Nat.beq i 4 then (s8_p5_den K M1 M2) else (bif Nat.beq i 3 then (s8_p2_den K M1) else (bif Nat.beq i 2 then (s8_p2_den K M1) else (bif Nat.beq i 1 then (s8_p2_den K M1) else (bif Nat.beq i 0 then (s8_p1_den K) else (fun _ _ => False)))))))) (s8_R K)
theorem s8_p13_ok (K : Value → World → Prop) (B1 : List Value → World → Prop) (B2 : List Value → World → Prop) (B3 : List Value → World → Prop) (s : Nat → Value) (w : World) (h : s8_p13 K B1 B2 B3 (s 3) (s 4) (s 5) (s 8) (s 11) (s 12) (s 13) (s 24) (s 25) (s 26) (s 70) (s 71) (s 72) w) : Tr (s8_p13_den K (fun s w => B1 [s 3, s 4, s 5, s 24, s 25, s 26] w) (fun s w => B2 [s 3, s 4, s 5, s 8, s 24, s 25, s 26, s 70, s 71, s 72] w) (fun s w => B3 [s 3, s 4, s 5, s 8, s 11, s 12, s 13, s 24, s 25, s 26, s 70, s 71, s 72] w) s w) :=
  tr_draw (P := Try.prog) (ops := (ro (cd (Try.f8.body.getD .skip) [1, 1, 1, 1, 0, 1, 0, 0, 1, 1, 0, 0, 1, 1, 1, 1, 1, 0, 1, 1, 1, 1, 1, 0, 1, 0, 0, 1, 1, 0, 0, 1, 1, 0, 0, 0, 0]))) (ms := [0, 0, 2, 0, 8, 30, 63]) (cs := [0, 1, 3, 4]) (N := (fun s w => s8_p12 K B1 B2 B3 (s 3) (s 4) (s 5) (s 8) (s 11) (s 12) (s 13) (s 24) (s 25) (s 26) (s 70) (s 71) (s 72) (s 85) w)) (N' := (s8_p12_den K (fun s w => B1 [s 3, s 4, s 5, s 24, s 25, s 26] w) (fun s w => B2 [s 3, s 4, s 5, s 8, s 24, s 25, s 26, s 70, s 71, s 72] w) (fun s w => B3 [s 3, s 4, s 5, s 8, s 11, s 12, s 13, s 24, s 25, s 26, s 70, s 71, s 72] w))) (s := s) (w := w) (p := s8_p13 K B1 B2 B3 (s 3) (s 4) (s 5) (s 8) (s 11) (s 12) (s 13) (s 24) (s 25) (s 26) (s 70) (s 71) (s 72) w) (q := s8_p13_den K (fun s w => B1 [s 3, s 4, s 5, s 24, s 25, s 26] w) (fun s w => B2 [s 3, s 4, s 5, s 8, s 24, s 25, s 26, s 70, s 71, s 72] w) (fun s w => B3 [s 3, s 4, s 5, s 8, s 11, s 12, s 13, s 24, s 25, s 26, s 70, s 71, s 72] w) s w) (by kernel_rfl) (by kernel_rfl) (fun s w h => s8_p12_ok K B1 B2 B3 s w @h) (by kernel_rfl) (by kernel_rfl) @h
def s8_p14_F (K : Value → World → Prop) (B1 : List Value → World → Prop) (B2 : List Value → World → Prop) (B3 : List Value → World → Prop) (l : List Value) (w : World) : Prop :=
  match l with
  | [t3, t4, t5, t8, t11, t12, t13, t24, t25, t26, t70, t71, t72] => s8_p13 K B1 B2 B3 t3 t4 t5 t8 t11 t12 t13 t24 t25 t26 t70 t71 t72 w
  | _ => False
theorem s8_p14_Fe {K : Value → World → Prop} {B1 : List Value → World → Prop} {B2 : List Value → World → Prop} {B3 : List Value → World → Prop} {t3 t4 t5 t8 t11 t12 t13 t24 t25 t26 t70 t71 t72 : Value} {w : World} : s8_p14_F K B1 B2 B3 [t3, t4, t5, t8, t11, t12, t13, t24, t25, t26, t70, t71, t72] w = s8_p13 K B1 B2 B3 t3 t4 t5 t8 t11 t12 t13 t24 t25 t26 t70 t71 t72 w := by kernel_rfl
def s8_p14 (K : Value → World → Prop) (B1 : List Value → World → Prop) (B2 : List Value → World → Prop) (t3 t4 t5 t8 t11 t12 t13 t24 t25 t26 t70 t71 t72 : Value) (w : World) : Prop :=
  LoopL (s8_p14_F K B1 B2) [t3, t4, t5, t8, t11, t12, t13, t24, t25, t26, t70, t71, t72] w
def s8_p14_den (K : Value → World → Prop) (M1 : (Nat → Value) → World → Prop) (M2 : (Nat → Value) → World → Prop) : (Nat → Value) → World → Prop := fun s w => LoopP (fun M3 s w => s8_p13_den K M1 M2 M3 s w) s w
theorem s8_p14_ok (K : Value → World → Prop) (B1 : List Value → World → Prop) (B2 : List Value → World → Prop) (s : Nat → Value) (w : World) (h : s8_p14 K B1 B2 (s 3) (s 4) (s 5) (s 8) (s 11) (s 12) (s 13) (s 24) (s 25) (s 26) (s 70) (s 71) (s 72) w) : Tr (s8_p14_den K (fun s w => B1 [s 3, s 4, s 5, s 24, s 25, s 26] w) (fun s w => B2 [s 3, s 4, s 5, s 8, s 24, s 25, s 26, s 70, s 71, s 72] w) s w) :=
  tr_loop (G := fun N' s w => s8_p13_den K (fun s w => B1 [s 3, s 4, s 5, s 24, s 25, s 26] w) (fun s w => B2 [s 3, s 4, s 5, s 8, s 24, s 25, s 26, s 70, s 71, s 72] w) N' s w) (F := s8_p14_F K B1 B2) (sel := fun s => [s 3, s 4, s 5, s 8, s 11, s 12, s 13, s 24, s 25, s 26, s 70, s 71, s 72]) (s := s) (w := w) (p := s8_p14 K B1 B2 (s 3) (s 4) (s 5) (s 8) (s 11) (s 12) (s 13) (s 24) (s 25) (s 26) (s 70) (s 71) (s 72) w) (q := s8_p14_den K (fun s w => B1 [s 3, s 4, s 5, s 24, s 25, s 26] w) (fun s w => B2 [s 3, s 4, s 5, s 8, s 24, s 25, s 26, s 70, s 71, s 72] w) s w) (fun B s w h => s8_p13_ok K B1 B2 B s w @h) (by kernel_rfl) (by kernel_rfl) @h
def s8_p15 (K : Value → World → Prop) (B1 : List Value → World → Prop) (B2 : List Value → World → Prop) (t3 t4 t5 t8 t24 t25 t26 t70 t71 t72 : Value) (w : World) : Prop :=
  ixs 5 t70 t72 (fun t75 w =>
  ldn 5 t75 (fun t76 w =>
  nw 59 #[(.int .i64 0), (.int .i64 0), (.int .i64 0), (.int .i64 0), (.int .i64 0)] (fun t12 w =>
  stn 5 t12 t76 (fun w =>
  cl Try.prog 31 #[t4] (fun t78 w =>
  s8_p14 K B1 B2 t3 t4 t5 t8 t72 t12 t78 t24 t25 t26 t70 t71 t72 w) w) w) w) w) w
def s8_p15_den (K : Value → World → Prop) (M1 : (Nat → Value) → World → Prop) (M2 : (Nat → Value) → World → Prop) : (Nat → Value) → World → Prop := denL Try.prog [(cd (Try.f8.body.getD .skip) [1, 1, 1, 1, 0, 1, 0, 0, 1, 1, 0, 0, 1, 1, 1, 1, 1, 0, 1, 1, 1, 1, 1, 0, 1, 0, 0, 1, 1, 0, 0, 0]), (cd (Try.f8.body.getD .skip) [1, 1, 1, 1, 0, 1, 0, 0, 1, 1, 0, 0, 1, 1, 1, 1, 1, 0, 1, 1, 1, 1, 1, 0, 1, 0, 0, 1, 1, 0, 0, 1, 0])] (s8_p14_den K M1 M2) (fun i => (bif Nat.beq i 4 then (s8_p5_den K M1 M2) else (bif Nat.beq i 3 then (s8_p2_den K M1) else (bif Nat.beq i 2 then (s8_p2_den K M1) else (bif Nat.beq i 1 then (s8_p2_den K M1) else (bif Nat.beq i 0 then (s8_p1_den K) else (fun _ _ => False))))))) (s8_R K)
theorem s8_p15_ok (K : Value → World → Prop) (B1 : List Value → World → Prop) (B2 : List Value → World → Prop) (s : Nat → Value) (w : World) (h : s8_p15 K B1 B2 (s 3) (s 4) (s 5) (s 8) (s 24) (s 25) (s 26) (s 70) (s 71) (s 72) w) : Tr (s8_p15_den K (fun s w => B1 [s 3, s 4, s 5, s 24, s 25, s 26] w) (fun s w => B2 [s 3, s 4, s 5, s 8, s 24, s 25, s 26, s 70, s 71, s 72] w) s w) :=
  tr_simple (P := Try.prog) (codes := [(cd (Try.f8.body.getD .skip) [1, 1, 1, 1, 0, 1, 0, 0, 1, 1, 0, 0, 1, 1, 1, 1, 1, 0, 1, 1, 1, 1, 1, 0, 1, 0, 0, 1, 1, 0, 0, 0]), (cd (Try.f8.body.getD .skip) [1, 1, 1, 1, 0, 1, 0, 0, 1, 1, 0, 0, 1, 1, 1, 1, 1, 0, 1, 1, 1, 1, 1, 0, 1, 0, 0, 1, 1, 0, 0, 1, 0])]) (N := (fun s w => s8_p14 K B1 B2 (s 3) (s 4) (s 5) (s 8) (s 11) (s 12) (s 13) (s 24) (s 25) (s 26) (s 70) (s 71) (s 72) w)) (N' := (s8_p14_den K (fun s w => B1 [s 3, s 4, s 5, s 24, s 25, s 26] w) (fun s w => B2 [s 3, s 4, s 5, s 8, s 24, s 25, s 26, s 70, s 71, s 72] w))) (X := (fun i => (bif Nat.beq i 4 then (fun s w => s8_p5 K B1 B2 (s 3) (s 4) (s 5) (s 8) (s 24) (s 25) (s 26) (s 70) (s 71) (s 72) w) else (bif Nat.beq i 3 then (fun s w => s8_p2 K B1 (s 3) (s 4) (s 5) (s 24) (s 25) (s 26) w) else (bif Nat.beq i 2 then (fun s w => s8_p2 K B1 (s 3) (s 4) (s 5) (s 24) (s 25) (s 26) w) else (bif Nat.beq i 1 then (fun s w => s8_p2 K B1 (s 3) (s 4) (s 5) (s 24) (s 25) (s 26) w) else (bif Nat.beq i 0 then (fun s w => s8_p1 K w) else (fun _ _ => False)))))))) (X' := (fun i => (bif Nat.beq i 4 then (s8_p5_den K (fun s w => B1 [s 3, s 4, s 5, s 24, s 25, s 26] w) (fun s w => B2 [s 3, s 4, s 5, s 8, s 24, s 25, s 26, s 70, s 71, s 72] w)) else (bif Nat.beq i 3 then (s8_p2_den K (fun s w => B1 [s 3, s 4, s 5, s 24, s 25, s 26] w)) else (bif Nat.beq i 2 then (s8_p2_den K (fun s w => B1 [s 3, s 4, s 5, s 24, s 25, s 26] w)) else (bif Nat.beq i 1 then (s8_p2_den K (fun s w => B1 [s 3, s 4, s 5, s 24, s 25, s 26] w)) else (bif Nat.beq i 0 then (s8_p1_den K) else (fun _ _ => False)))))))) (R := s8_R K) (s := s) (w := w) (p := s8_p15 K B1 B2 (s 3) (s 4) (s 5) (s 8) (s 24) (s 25) (s 26) (s 70) (s 71) (s 72) w) (q := s8_p15_den K (fun s w => B1 [s 3, s 4, s 5, s 24, s 25, s 26] w) (fun s w => B2 [s 3, s 4, s 5, s 8, s 24, s 25, s 26, s 70, s 71, s 72] w) s w) (fun s w h => s8_p14_ok K B1 B2 s w @h) (fun i => (tr_bif (fun s w h => s8_p5_ok K B1 B2 s w @h) (tr_bif (fun s w h => s8_p2_ok K B1 s w @h) (tr_bif (fun s w h => s8_p2_ok K B1 s w @h) (tr_bif (fun s w h => s8_p2_ok K B1 s w @h) (tr_bif (fun s w h => s8_p1_ok K s w @h) tr_id)))))) (by kernel_rfl) (by kernel_rfl) @h
def s8_p16 (K : Value → World → Prop) (B1 : List Value → World → Prop) (B2 : List Value → World → Prop) (t3 t4 t5 t8 t24 t25 t26 t70 t71 t72 : Value) (w : World) : Prop :=
  boI .lss t72 t71 (fun t73 w =>
  ifb t73
  (s8_p15 K B1 B2 t3 t4 t5 t8 t24 t25 t26 t70 t71 t72 w)
  (s8_p2 K B1 t3 t4 t5 t24 t25 t26 w)) w
def s8_p16_den (K : Value → World → Prop) (M1 : (Nat → Value) → World → Prop) (M2 : (Nat → Value) → World → Prop) : (Nat → Value) → World → Prop := denL Try.prog [(cd (Try.f8.body.getD .skip) [1, 1, 1, 1, 0, 1, 0, 0, 1, 1, 0, 0, 1, 1, 1, 1, 1, 0, 1, 1, 1, 1, 1, 0, 1, 0, 0, 0]), (cd (Try.f8.body.getD .skip) [1, 1, 1, 1, 0, 1, 0, 0, 1, 1, 0, 0, 1, 1, 1, 1, 1, 0, 1, 1, 1, 1, 1, 0, 1, 0, 0, 1, 0])] (s8_p15_den K M1 M2) (fun i => (bif Nat.beq i 3 then (s8_p2_den K M1) else (bif Nat.beq i 2 then (s8_p2_den K M1) else (bif Nat.beq i 1 then (s8_p2_den K M1) else (bif Nat.beq i 0 then (s8_p1_den K) else (fun _ _ => False)))))) (s8_R K)
theorem s8_p16_ok (K : Value → World → Prop) (B1 : List Value → World → Prop) (B2 : List Value → World → Prop) (s : Nat → Value) (w : World) (h : s8_p16 K B1 B2 (s 3) (s 4) (s 5) (s 8) (s 24) (s 25) (s 26) (s 70) (s 71) (s 72) w) : Tr (s8_p16_den K (fun s w => B1 [s 3, s 4, s 5, s 24, s 25, s 26] w) (fun s w => B2 [s 3, s 4, s 5, s 8, s 24, s 25, s 26, s 70, s 71, s 72] w) s w) :=
  tr_simple (P := Try.prog) (codes := [(cd (Try.f8.body.getD .skip) [1, 1, 1, 1, 0, 1, 0, 0, 1, 1, 0, 0, 1, 1, 1, 1, 1, 0, 1, 1, 1, 1, 1, 0, 1, 0, 0, 0]), (cd (Try.f8.body.getD .skip) [1, 1, 1, 1, 0, 1, 0, 0, 1, 1, 0, 0, 1, 1, 1, 1, 1, 0, 1, 1, 1, 1, 1, 0, 1, 0, 0, 1, 0])]) (N := (fun s w => s8_p15 K B1 B2 (s 3) (s 4) (s 5) (s 8) (s 24) (s 25) (s 26) (s 70) (s 71) (s 72) w)) (N' := (s8_p15_den K (fun s w => B1 [s 3, s 4, s 5, s 24, s 25, s 26] w) (fun s w => B2 [s 3, s 4, s 5, s 8, s 24, s 25, s 26, s 70, s 71, s 72] w))) (X := (fun i => (bif Nat.beq i 3 then (fun s w => s8_p2 K B1 (s 3) (s 4) (s 5) (s 24) (s 25) (s 26) w) else (bif Nat.beq i 2 then (fun s w => s8_p2 K B1 (s 3) (s 4) (s 5) (s 24) (s 25) (s 26) w) else (bif Nat.beq i 1 then (fun s w => s8_p2 K B1 (s 3) (s 4) (s 5) (s 24) (s 25) (s 26) w) else (bif Nat.beq i 0 then (fun s w => s8_p1 K w) else (fun _ _ => False))))))) (X' := (fun i => (bif Nat.beq i 3 then (s8_p2_den K (fun s w => B1 [s 3, s 4, s 5, s 24, s 25, s 26] w)) else (bif Nat.beq i 2 then (s8_p2_den K (fun s w => B1 [s 3, s 4, s 5, s 24, s 25, s 26] w)) else (bif Nat.beq i 1 then (s8_p2_den K (fun s w => B1 [s 3, s 4, s 5, s 24, s 25, s 26] w)) else (bif Nat.beq i 0 then (s8_p1_den K) else (fun _ _ => False))))))) (R := s8_R K) (s := s) (w := w) (p := s8_p16 K B1 B2 (s 3) (s 4) (s 5) (s 8) (s 24) (s 25) (s 26) (s 70) (s 71) (s 72) w) (q := s8_p16_den K (fun s w => B1 [s 3, s 4, s 5, s 24, s 25, s 26] w) (fun s w => B2 [s 3, s 4, s 5, s 8, s 24, s 25, s 26, s 70, s 71, s 72] w) s w) (fun s w h => s8_p15_ok K B1 B2 s w @h) (fun i => (tr_bif (fun s w h => s8_p2_ok K B1 s w @h) (tr_bif (fun s w h => s8_p2_ok K B1 s w @h) (tr_bif (fun s w h => s8_p2_ok K B1 s w @h) (tr_bif (fun s w h => s8_p1_ok K s w @h) tr_id))))) (by kernel_rfl) (by kernel_rfl) @h
def s8_p17_F (K : Value → World → Prop) (B1 : List Value → World → Prop) (B2 : List Value → World → Prop) (l : List Value) (w : World) : Prop :=
  match l with
  | [t3, t4, t5, t8, t24, t25, t26, t70, t71, t72] => s8_p16 K B1 B2 t3 t4 t5 t8 t24 t25 t26 t70 t71 t72 w
  | _ => False
theorem s8_p17_Fe {K : Value → World → Prop} {B1 : List Value → World → Prop} {B2 : List Value → World → Prop} {t3 t4 t5 t8 t24 t25 t26 t70 t71 t72 : Value} {w : World} : s8_p17_F K B1 B2 [t3, t4, t5, t8, t24, t25, t26, t70, t71, t72] w = s8_p16 K B1 B2 t3 t4 t5 t8 t24 t25 t26 t70 t71 t72 w := by kernel_rfl
def s8_p17 (K : Value → World → Prop) (B1 : List Value → World → Prop) (t3 t4 t5 t8 t24 t25 t26 t70 t71 t72 : Value) (w : World) : Prop :=
  LoopL (s8_p17_F K B1) [t3, t4, t5, t8, t24, t25, t26, t70, t71, t72] w
def s8_p17_den (K : Value → World → Prop) (M1 : (Nat → Value) → World → Prop) : (Nat → Value) → World → Prop := fun s w => LoopP (fun M2 s w => s8_p16_den K M1 M2 s w) s w
theorem s8_p17_ok (K : Value → World → Prop) (B1 : List Value → World → Prop) (s : Nat → Value) (w : World) (h : s8_p17 K B1 (s 3) (s 4) (s 5) (s 8) (s 24) (s 25) (s 26) (s 70) (s 71) (s 72) w) : Tr (s8_p17_den K (fun s w => B1 [s 3, s 4, s 5, s 24, s 25, s 26] w) s w) :=
  tr_loop (G := fun N' s w => s8_p16_den K (fun s w => B1 [s 3, s 4, s 5, s 24, s 25, s 26] w) N' s w) (F := s8_p17_F K B1) (sel := fun s => [s 3, s 4, s 5, s 8, s 24, s 25, s 26, s 70, s 71, s 72]) (s := s) (w := w) (p := s8_p17 K B1 (s 3) (s 4) (s 5) (s 8) (s 24) (s 25) (s 26) (s 70) (s 71) (s 72) w) (q := s8_p17_den K (fun s w => B1 [s 3, s 4, s 5, s 24, s 25, s 26] w) s w) (fun B s w h => s8_p16_ok K B1 B s w @h) (by kernel_rfl) (by kernel_rfl) @h
def s8_p18 (K : Value → World → Prop) (B1 : List Value → World → Prop) (t3 t4 t5 t8 t24 t25 t26 : Value) (w : World) : Prop :=
  fd 2 t5 (fun t69 w =>
  ld1 t69 (fun t70 w =>
  lnS t70 (fun t71 w =>
  s8_p17 K B1 t3 t4 t5 t8 t24 t25 t26 t70 t71 (.int .i64 0) w) w) w) w
def s8_p18_den (K : Value → World → Prop) (M1 : (Nat → Value) → World → Prop) : (Nat → Value) → World → Prop := denL Try.prog [(cd (Try.f8.body.getD .skip) [1, 1, 1, 1, 0, 1, 0, 0, 1, 1, 0, 0, 1, 1, 1, 1, 1, 0, 1, 1, 1, 1, 1, 0, 0])] (s8_p17_den K M1) (fun i => (bif Nat.beq i 2 then (s8_p2_den K M1) else (bif Nat.beq i 1 then (s8_p2_den K M1) else (bif Nat.beq i 0 then (s8_p1_den K) else (fun _ _ => False))))) (s8_R K)
theorem s8_p18_ok (K : Value → World → Prop) (B1 : List Value → World → Prop) (s : Nat → Value) (w : World) (h : s8_p18 K B1 (s 3) (s 4) (s 5) (s 8) (s 24) (s 25) (s 26) w) : Tr (s8_p18_den K (fun s w => B1 [s 3, s 4, s 5, s 24, s 25, s 26] w) s w) :=
  tr_simple (P := Try.prog) (codes := [(cd (Try.f8.body.getD .skip) [1, 1, 1, 1, 0, 1, 0, 0, 1, 1, 0, 0, 1, 1, 1, 1, 1, 0, 1, 1, 1, 1, 1, 0, 0])]) (N := (fun s w => s8_p17 K B1 (s 3) (s 4) (s 5) (s 8) (s 24) (s 25) (s 26) (s 70) (s 71) (s 72) w)) (N' := (s8_p17_den K (fun s w => B1 [s 3, s 4, s 5, s 24, s 25, s 26] w))) (X := (fun i => (bif Nat.beq i 2 then (fun s w => s8_p2 K B1 (s 3) (s 4) (s 5) (s 24) (s 25) (s 26) w) else (bif Nat.beq i 1 then (fun s w => s8_p2 K B1 (s 3) (s 4) (s 5) (s 24) (s 25) (s 26) w) else (bif Nat.beq i 0 then (fun s w => s8_p1 K w) else (fun _ _ => False)))))) (X' := (fun i => (bif Nat.beq i 2 then (s8_p2_den K (fun s w => B1 [s 3, s 4, s 5, s 24, s 25, s 26] w)) else (bif Nat.beq i 1 then (s8_p2_den K (fun s w => B1 [s 3, s 4, s 5, s 24, s 25, s 26] w)) else (bif Nat.beq i 0 then (s8_p1_den K) else (fun _ _ => False)))))) (R := s8_R K) (s := s) (w := w) (p := s8_p18 K B1 (s 3) (s 4) (s 5) (s 8) (s 24) (s 25) (s 26) w) (q := s8_p18_den K (fun s w => B1 [s 3, s 4, s 5, s 24, s 25, s 26] w) s w) (fun s w h => s8_p17_ok K B1 s w @h) (fun i => (tr_bif (fun s w h => s8_p2_ok K B1 s w @h) (tr_bif (fun s w h => s8_p2_ok K B1 s w @h) (tr_bif (fun s w h => s8_p1_ok K s w @h) tr_id)))) (by kernel_rfl) (by kernel_rfl) @h
def s8_p19 (K : Value → World → Prop) (B1 : List Value → World → Prop) (t3 t4 t5 t8 t24 t25 t26 t67 : Value) (w : World) : Prop :=
  ifb t67
  (s8_p18 K B1 t3 t4 t5 t8 t24 t25 t26 w)
  (s8_p2 K B1 t3 t4 t5 t24 t25 t26 w)
def s8_p19_den (K : Value → World → Prop) (M1 : (Nat → Value) → World → Prop) : (Nat → Value) → World → Prop := fun s w => ifb (ev s (.tmp 67)) ((s8_p18_den K M1) s w) ((s8_p2_den K M1) s w)
theorem s8_p19_ok (K : Value → World → Prop) (B1 : List Value → World → Prop) (s : Nat → Value) (w : World) (h : s8_p19 K B1 (s 3) (s 4) (s 5) (s 8) (s 24) (s 25) (s 26) (s 67) w) : Tr (s8_p19_den K (fun s w => B1 [s 3, s 4, s 5, s 24, s 25, s 26] w) s w) :=
  tr_cond (v := ev s (.tmp 67)) (a := (fun s w => s8_p18 K B1 (s 3) (s 4) (s 5) (s 8) (s 24) (s 25) (s 26) w) s w) (a' := (s8_p18_den K (fun s w => B1 [s 3, s 4, s 5, s 24, s 25, s 26] w)) s w) (b := (fun s w => s8_p2 K B1 (s 3) (s 4) (s 5) (s 24) (s 25) (s 26) w) s w) (b' := (s8_p2_den K (fun s w => B1 [s 3, s 4, s 5, s 24, s 25, s 26] w)) s w) (p := s8_p19 K B1 (s 3) (s 4) (s 5) (s 8) (s 24) (s 25) (s 26) (s 67) w) (q := s8_p19_den K (fun s w => B1 [s 3, s 4, s 5, s 24, s 25, s 26] w) s w) ((fun s w h => s8_p18_ok K B1 s w @h) s w) ((fun s w h => s8_p2_ok K B1 s w @h) s w) (by kernel_rfl) (by kernel_rfl) @h
def s8_p20 (K : Value → World → Prop) (B1 : List Value → World → Prop) (t3 t4 t5 t8 t24 t25 t26 t41 : Value) (w : World) : Prop :=
  boI .eql t41 (.int .i64 2) (fun t68 w =>
  s8_p19 K B1 t3 t4 t5 t8 t24 t25 t26 t68 w) w
def s8_p20_den (K : Value → World → Prop) (M1 : (Nat → Value) → World → Prop) : (Nat → Value) → World → Prop := denL Try.prog [(cd (Try.f8.body.getD .skip) [1, 1, 1, 1, 0, 1, 0, 0, 1, 1, 0, 0, 1, 1, 1, 1, 1, 0, 1, 1, 1, 1, 0])] (s8_p19_den K M1) (fun i => (bif Nat.beq i 2 then (s8_p2_den K M1) else (bif Nat.beq i 1 then (s8_p2_den K M1) else (bif Nat.beq i 0 then (s8_p1_den K) else (fun _ _ => False))))) (s8_R K)
theorem s8_p20_ok (K : Value → World → Prop) (B1 : List Value → World → Prop) (s : Nat → Value) (w : World) (h : s8_p20 K B1 (s 3) (s 4) (s 5) (s 8) (s 24) (s 25) (s 26) (s 41) w) : Tr (s8_p20_den K (fun s w => B1 [s 3, s 4, s 5, s 24, s 25, s 26] w) s w) :=
  tr_simple (P := Try.prog) (codes := [(cd (Try.f8.body.getD .skip) [1, 1, 1, 1, 0, 1, 0, 0, 1, 1, 0, 0, 1, 1, 1, 1, 1, 0, 1, 1, 1, 1, 0])]) (N := (fun s w => s8_p19 K B1 (s 3) (s 4) (s 5) (s 8) (s 24) (s 25) (s 26) (s 67) w)) (N' := (s8_p19_den K (fun s w => B1 [s 3, s 4, s 5, s 24, s 25, s 26] w))) (X := (fun i => (bif Nat.beq i 2 then (fun s w => s8_p2 K B1 (s 3) (s 4) (s 5) (s 24) (s 25) (s 26) w) else (bif Nat.beq i 1 then (fun s w => s8_p2 K B1 (s 3) (s 4) (s 5) (s 24) (s 25) (s 26) w) else (bif Nat.beq i 0 then (fun s w => s8_p1 K w) else (fun _ _ => False)))))) (X' := (fun i => (bif Nat.beq i 2 then (s8_p2_den K (fun s w => B1 [s 3, s 4, s 5, s 24, s 25, s 26] w)) else (bif Nat.beq i 1 then (s8_p2_den K (fun s w => B1 [s 3, s 4, s 5, s 24, s 25, s 26] w)) else (bif Nat.beq i 0 then (s8_p1_den K) else (fun _ _ => False)))))) (R := s8_R K) (s := s) (w := w) (p := s8_p20 K B1 (s 3) (s 4) (s 5) (s 8) (s 24) (s 25) (s 26) (s 41) w) (q := s8_p20_den K (fun s w => B1 [s 3, s 4, s 5, s 24, s 25, s 26] w) s w) (fun s w h => s8_p19_ok K B1 s w @h) (fun i => (tr_bif (fun s w h => s8_p2_ok K B1 s w @h) (tr_bif (fun s w h => s8_p2_ok K B1 s w @h) (tr_bif (fun s w h => s8_p1_ok K s w @h) tr_id)))) (by kernel_rfl) (by kernel_rfl) @h
def s8_p21 (K : Value → World → Prop) (B1 : List Value → World → Prop) (t3 t4 t5 t7 t8 t24 t25 t26 t41 t54 : Value) (w : World) : Prop :=
  ifb t54
  (s8_p4 K B1 t3 t4 t5 t7 t24 t25 t26 w)
  (s8_p20 K B1 t3 t4 t5 t8 t24 t25 t26 t41 w)
def s8_p21_den (K : Value → World → Prop) (M1 : (Nat → Value) → World → Prop) : (Nat → Value) → World → Prop := fun s w => ifb (ev s (.tmp 54)) ((s8_p4_den K M1) s w) ((s8_p20_den K M1) s w)
theorem s8_p21_ok (K : Value → World → Prop) (B1 : List Value → World → Prop) (s : Nat → Value) (w : World) (h : s8_p21 K B1 (s 3) (s 4) (s 5) (s 7) (s 8) (s 24) (s 25) (s 26) (s 41) (s 54) w) : Tr (s8_p21_den K (fun s w => B1 [s 3, s 4, s 5, s 24, s 25, s 26] w) s w) :=
  tr_cond (v := ev s (.tmp 54)) (a := (fun s w => s8_p4 K B1 (s 3) (s 4) (s 5) (s 7) (s 24) (s 25) (s 26) w) s w) (a' := (s8_p4_den K (fun s w => B1 [s 3, s 4, s 5, s 24, s 25, s 26] w)) s w) (b := (fun s w => s8_p20 K B1 (s 3) (s 4) (s 5) (s 8) (s 24) (s 25) (s 26) (s 41) w) s w) (b' := (s8_p20_den K (fun s w => B1 [s 3, s 4, s 5, s 24, s 25, s 26] w)) s w) (p := s8_p21 K B1 (s 3) (s 4) (s 5) (s 7) (s 8) (s 24) (s 25) (s 26) (s 41) (s 54) w) (q := s8_p21_den K (fun s w => B1 [s 3, s 4, s 5, s 24, s 25, s 26] w) s w) ((fun s w h => s8_p4_ok K B1 s w @h) s w) ((fun s w h => s8_p20_ok K B1 s w @h) s w) (by kernel_rfl) (by kernel_rfl) @h
def s8_p22 (K : Value → World → Prop) (B1 : List Value → World → Prop) (t3 t4 t5 t7 t8 t24 t25 t26 t41 : Value) (w : World) : Prop :=
  boI .eql t41 (.int .i64 1) (fun t55 w =>
  s8_p21 K B1 t3 t4 t5 t7 t8 t24 t25 t26 t41 t55 w) w
def s8_p22_den (K : Value → World → Prop) (M1 : (Nat → Value) → World → Prop) : (Nat → Value) → World → Prop := denL Try.prog [(cd (Try.f8.body.getD .skip) [1, 1, 1, 1, 0, 1, 0, 0, 1, 1, 0, 0, 1, 1, 1, 1, 1, 0, 1, 1, 0])] (s8_p21_den K M1) (fun i => (bif Nat.beq i 2 then (s8_p2_den K M1) else (bif Nat.beq i 1 then (s8_p2_den K M1) else (bif Nat.beq i 0 then (s8_p1_den K) else (fun _ _ => False))))) (s8_R K)
theorem s8_p22_ok (K : Value → World → Prop) (B1 : List Value → World → Prop) (s : Nat → Value) (w : World) (h : s8_p22 K B1 (s 3) (s 4) (s 5) (s 7) (s 8) (s 24) (s 25) (s 26) (s 41) w) : Tr (s8_p22_den K (fun s w => B1 [s 3, s 4, s 5, s 24, s 25, s 26] w) s w) :=
  tr_simple (P := Try.prog) (codes := [(cd (Try.f8.body.getD .skip) [1, 1, 1, 1, 0, 1, 0, 0, 1, 1, 0, 0, 1, 1, 1, 1, 1, 0, 1, 1, 0])]) (N := (fun s w => s8_p21 K B1 (s 3) (s 4) (s 5) (s 7) (s 8) (s 24) (s 25) (s 26) (s 41) (s 54) w)) (N' := (s8_p21_den K (fun s w => B1 [s 3, s 4, s 5, s 24, s 25, s 26] w))) (X := (fun i => (bif Nat.beq i 2 then (fun s w => s8_p2 K B1 (s 3) (s 4) (s 5) (s 24) (s 25) (s 26) w) else (bif Nat.beq i 1 then (fun s w => s8_p2 K B1 (s 3) (s 4) (s 5) (s 24) (s 25) (s 26) w) else (bif Nat.beq i 0 then (fun s w => s8_p1 K w) else (fun _ _ => False)))))) (X' := (fun i => (bif Nat.beq i 2 then (s8_p2_den K (fun s w => B1 [s 3, s 4, s 5, s 24, s 25, s 26] w)) else (bif Nat.beq i 1 then (s8_p2_den K (fun s w => B1 [s 3, s 4, s 5, s 24, s 25, s 26] w)) else (bif Nat.beq i 0 then (s8_p1_den K) else (fun _ _ => False)))))) (R := s8_R K) (s := s) (w := w) (p := s8_p22 K B1 (s 3) (s 4) (s 5) (s 7) (s 8) (s 24) (s 25) (s 26) (s 41) w) (q := s8_p22_den K (fun s w => B1 [s 3, s 4, s 5, s 24, s 25, s 26] w) s w) (fun s w h => s8_p21_ok K B1 s w @h) (fun i => (tr_bif (fun s w h => s8_p2_ok K B1 s w @h) (tr_bif (fun s w h => s8_p2_ok K B1 s w @h) (tr_bif (fun s w h => s8_p1_ok K s w @h) tr_id)))) (by kernel_rfl) (by kernel_rfl) @h
def s8_p23 (K : Value → World → Prop) (B1 : List Value → World → Prop) (t3 t4 t5 t7 t8 t24 t25 t26 t41 t42 : Value) (w : World) : Prop :=
  ifb t42
  (s8_p3 K B1 t3 t4 t5 t7 t24 t25 t26 w)
  (s8_p22 K B1 t3 t4 t5 t7 t8 t24 t25 t26 t41 w)
def s8_p23_den (K : Value → World → Prop) (M1 : (Nat → Value) → World → Prop) : (Nat → Value) → World → Prop := fun s w => ifb (ev s (.tmp 42)) ((s8_p3_den K M1) s w) ((s8_p22_den K M1) s w)
theorem s8_p23_ok (K : Value → World → Prop) (B1 : List Value → World → Prop) (s : Nat → Value) (w : World) (h : s8_p23 K B1 (s 3) (s 4) (s 5) (s 7) (s 8) (s 24) (s 25) (s 26) (s 41) (s 42) w) : Tr (s8_p23_den K (fun s w => B1 [s 3, s 4, s 5, s 24, s 25, s 26] w) s w) :=
  tr_cond (v := ev s (.tmp 42)) (a := (fun s w => s8_p3 K B1 (s 3) (s 4) (s 5) (s 7) (s 24) (s 25) (s 26) w) s w) (a' := (s8_p3_den K (fun s w => B1 [s 3, s 4, s 5, s 24, s 25, s 26] w)) s w) (b := (fun s w => s8_p22 K B1 (s 3) (s 4) (s 5) (s 7) (s 8) (s 24) (s 25) (s 26) (s 41) w) s w) (b' := (s8_p22_den K (fun s w => B1 [s 3, s 4, s 5, s 24, s 25, s 26] w)) s w) (p := s8_p23 K B1 (s 3) (s 4) (s 5) (s 7) (s 8) (s 24) (s 25) (s 26) (s 41) (s 42) w) (q := s8_p23_den K (fun s w => B1 [s 3, s 4, s 5, s 24, s 25, s 26] w) s w) ((fun s w h => s8_p3_ok K B1 s w @h) s w) ((fun s w h => s8_p22_ok K B1 s w @h) s w) (by kernel_rfl) (by kernel_rfl) @h
def s8_p24 (K : Value → World → Prop) (B1 : List Value → World → Prop) (t3 t4 t5 t7 t8 t24 t25 t26 t41 : Value) (w : World) : Prop :=
  boI .eql t41 (.int .i64 0) (fun t43 w =>
  s8_p23 K B1 t3 t4 t5 t7 t8 t24 t25 t26 t41 t43 w) w
def s8_p24_den (K : Value → World → Prop) (M1 : (Nat → Value) → World → Prop) : (Nat → Value) → World → Prop := denL Try.prog [(cd (Try.f8.body.getD .skip) [1, 1, 1, 1, 0, 1, 0, 0, 1, 1, 0, 0, 1, 1, 1, 1, 1, 0, 0])] (s8_p23_den K M1) (fun i => (bif Nat.beq i 2 then (s8_p2_den K M1) else (bif Nat.beq i 1 then (s8_p2_den K M1) else (bif Nat.beq i 0 then (s8_p1_den K) else (fun _ _ => False))))) (s8_R K)
theorem s8_p24_ok (K : Value → World → Prop) (B1 : List Value → World → Prop) (s : Nat → Value) (w : World) (h : s8_p24 K B1 (s 3) (s 4) (s 5) (s 7) (s 8) (s 24) (s 25) (s 26) (s 41) w) : Tr (s8_p24_den K (fun s w => B1 [s 3, s 4, s 5, s 24, s 25, s 26] w) s w) :=
  tr_simple (P := Try.prog) (codes := [(cd (Try.f8.body.getD .skip) [1, 1, 1, 1, 0, 1, 0, 0, 1, 1, 0, 0, 1, 1, 1, 1, 1, 0, 0])]) (N := (fun s w => s8_p23 K B1 (s 3) (s 4) (s 5) (s 7) (s 8) (s 24) (s 25) (s 26) (s 41) (s 42) w)) (N' := (s8_p23_den K (fun s w => B1 [s 3, s 4, s 5, s 24, s 25, s 26] w))) (X := (fun i => (bif Nat.beq i 2 then (fun s w => s8_p2 K B1 (s 3) (s 4) (s 5) (s 24) (s 25) (s 26) w) else (bif Nat.beq i 1 then (fun s w => s8_p2 K B1 (s 3) (s 4) (s 5) (s 24) (s 25) (s 26) w) else (bif Nat.beq i 0 then (fun s w => s8_p1 K w) else (fun _ _ => False)))))) (X' := (fun i => (bif Nat.beq i 2 then (s8_p2_den K (fun s w => B1 [s 3, s 4, s 5, s 24, s 25, s 26] w)) else (bif Nat.beq i 1 then (s8_p2_den K (fun s w => B1 [s 3, s 4, s 5, s 24, s 25, s 26] w)) else (bif Nat.beq i 0 then (s8_p1_den K) else (fun _ _ => False)))))) (R := s8_R K) (s := s) (w := w) (p := s8_p24 K B1 (s 3) (s 4) (s 5) (s 7) (s 8) (s 24) (s 25) (s 26) (s 41) w) (q := s8_p24_den K (fun s w => B1 [s 3, s 4, s 5, s 24, s 25, s 26] w) s w) (fun s w h => s8_p23_ok K B1 s w @h) (fun i => (tr_bif (fun s w h => s8_p2_ok K B1 s w @h) (tr_bif (fun s w h => s8_p2_ok K B1 s w @h) (tr_bif (fun s w h => s8_p1_ok K s w @h) tr_id)))) (by kernel_rfl) (by kernel_rfl) @h
def s8_p25 (K : Value → World → Prop) (B1 : List Value → World → Prop) (t3 t4 t5 t24 t25 t26 : Value) (w : World) : Prop :=
  ixs 6 t24 t26 (fun t28 w =>
  ldn 6 t28 (fun t29 w =>
  nw 34 #[(.int .i64 0), (.int .i64 0), (.int .i64 0), (.int .i64 0), (.int .i64 0), (.int .i64 0)] (fun t7 w =>
  stn 6 t7 t29 (fun w =>
  cl Try.prog 31 #[t4] (fun t31 w =>
  ldn 6 t7 (fun t34 w =>
  cl Try.prog 17 #[t4, t34] (fun t35 w =>
  exq t35 0 (fun t36 w =>
  exq t35 1 (fun t37 w =>
  boI .neq t36 (.int .i64 0) (fun t39 w =>
  ifb t39
  (s8_p2 K B1 t3 t4 t5 t24 t25 t26 w)
  (fd 0 t7 (fun t40 w =>
  ld1 t40 (fun t41 w =>
  s8_p24 K B1 t3 t4 t5 t7 t31 t24 t25 t26 t41 w) w) w)) w) w) w) w) w) w) w) w) w) w
def s8_p25_den (K : Value → World → Prop) (M1 : (Nat → Value) → World → Prop) : (Nat → Value) → World → Prop := denL Try.prog [(cd (Try.f8.body.getD .skip) [1, 1, 1, 1, 0, 1, 0, 0, 1, 1, 0, 0, 0]), (cd (Try.f8.body.getD .skip) [1, 1, 1, 1, 0, 1, 0, 0, 1, 1, 0, 0, 1, 0]), (cd (Try.f8.body.getD .skip) [1, 1, 1, 1, 0, 1, 0, 0, 1, 1, 0, 0, 1, 1, 0]), (cd (Try.f8.body.getD .skip) [1, 1, 1, 1, 0, 1, 0, 0, 1, 1, 0, 0, 1, 1, 1, 0, 0]), (cd (Try.f8.body.getD .skip) [1, 1, 1, 1, 0, 1, 0, 0, 1, 1, 0, 0, 1, 1, 1, 0, 1]), (cd (Try.f8.body.getD .skip) [1, 1, 1, 1, 0, 1, 0, 0, 1, 1, 0, 0, 1, 1, 1, 1, 0])] (s8_p24_den K M1) (fun i => (bif Nat.beq i 1 then (s8_p2_den K M1) else (bif Nat.beq i 0 then (s8_p1_den K) else (fun _ _ => False)))) (s8_R K)
theorem s8_p25_ok (K : Value → World → Prop) (B1 : List Value → World → Prop) (s : Nat → Value) (w : World) (h : s8_p25 K B1 (s 3) (s 4) (s 5) (s 24) (s 25) (s 26) w) : Tr (s8_p25_den K (fun s w => B1 [s 3, s 4, s 5, s 24, s 25, s 26] w) s w) :=
  tr_simple (P := Try.prog) (codes := [(cd (Try.f8.body.getD .skip) [1, 1, 1, 1, 0, 1, 0, 0, 1, 1, 0, 0, 0]), (cd (Try.f8.body.getD .skip) [1, 1, 1, 1, 0, 1, 0, 0, 1, 1, 0, 0, 1, 0]), (cd (Try.f8.body.getD .skip) [1, 1, 1, 1, 0, 1, 0, 0, 1, 1, 0, 0, 1, 1, 0]), (cd (Try.f8.body.getD .skip) [1, 1, 1, 1, 0, 1, 0, 0, 1, 1, 0, 0, 1, 1, 1, 0, 0]), (cd (Try.f8.body.getD .skip) [1, 1, 1, 1, 0, 1, 0, 0, 1, 1, 0, 0, 1, 1, 1, 0, 1]), (cd (Try.f8.body.getD .skip) [1, 1, 1, 1, 0, 1, 0, 0, 1, 1, 0, 0, 1, 1, 1, 1, 0])]) (N := (fun s w => s8_p24 K B1 (s 3) (s 4) (s 5) (s 7) (s 8) (s 24) (s 25) (s 26) (s 41) w)) (N' := (s8_p24_den K (fun s w => B1 [s 3, s 4, s 5, s 24, s 25, s 26] w))) (X := (fun i => (bif Nat.beq i 1 then (fun s w => s8_p2 K B1 (s 3) (s 4) (s 5) (s 24) (s 25) (s 26) w) else (bif Nat.beq i 0 then (fun s w => s8_p1 K w) else (fun _ _ => False))))) (X' := (fun i => (bif Nat.beq i 1 then (s8_p2_den K (fun s w => B1 [s 3, s 4, s 5, s 24, s 25, s 26] w)) else (bif Nat.beq i 0 then (s8_p1_den K) else (fun _ _ => False))))) (R := s8_R K) (s := s) (w := w) (p := s8_p25 K B1 (s 3) (s 4) (s 5) (s 24) (s 25) (s 26) w) (q := s8_p25_den K (fun s w => B1 [s 3, s 4, s 5, s 24, s 25, s 26] w) s w) (fun s w h => s8_p24_ok K B1 s w @h) (fun i => (tr_bif (fun s w h => s8_p2_ok K B1 s w @h) (tr_bif (fun s w h => s8_p1_ok K s w @h) tr_id))) (by kernel_rfl) (by kernel_rfl) @h
def s8_p26 (K : Value → World → Prop) (B1 : List Value → World → Prop) (t3 t4 t5 t24 t25 t26 : Value) (w : World) : Prop :=
  boI .lss t26 t25 (fun t27 w =>
  ifb t27
  (s8_p25 K B1 t3 t4 t5 t24 t25 t26 w)
  (s8_p1 K w)) w
def s8_p26_den (K : Value → World → Prop) (M1 : (Nat → Value) → World → Prop) : (Nat → Value) → World → Prop := denL Try.prog [(cd (Try.f8.body.getD .skip) [1, 1, 1, 1, 0, 1, 0, 0, 0]), (cd (Try.f8.body.getD .skip) [1, 1, 1, 1, 0, 1, 0, 0, 1, 0])] (s8_p25_den K M1) (fun i => (bif Nat.beq i 0 then (s8_p1_den K) else (fun _ _ => False))) (s8_R K)
theorem s8_p26_ok (K : Value → World → Prop) (B1 : List Value → World → Prop) (s : Nat → Value) (w : World) (h : s8_p26 K B1 (s 3) (s 4) (s 5) (s 24) (s 25) (s 26) w) : Tr (s8_p26_den K (fun s w => B1 [s 3, s 4, s 5, s 24, s 25, s 26] w) s w) :=
  tr_simple (P := Try.prog) (codes := [(cd (Try.f8.body.getD .skip) [1, 1, 1, 1, 0, 1, 0, 0, 0]), (cd (Try.f8.body.getD .skip) [1, 1, 1, 1, 0, 1, 0, 0, 1, 0])]) (N := (fun s w => s8_p25 K B1 (s 3) (s 4) (s 5) (s 24) (s 25) (s 26) w)) (N' := (s8_p25_den K (fun s w => B1 [s 3, s 4, s 5, s 24, s 25, s 26] w))) (X := (fun i => (bif Nat.beq i 0 then (fun s w => s8_p1 K w) else (fun _ _ => False)))) (X' := (fun i => (bif Nat.beq i 0 then (s8_p1_den K) else (fun _ _ => False)))) (R := s8_R K) (s := s) (w := w) (p := s8_p26 K B1 (s 3) (s 4) (s 5) (s 24) (s 25) (s 26) w) (q := s8_p26_den K (fun s w => B1 [s 3, s 4, s 5, s 24, s 25, s 26] w) s w) (fun s w h => s8_p25_ok K B1 s w @h) (fun i => (tr_bif (fun s w h => s8_p1_ok K s w @h) tr_id)) (by kernel_rfl) (by kernel_rfl) @h
def s8_p27_F (K : Value → World → Prop) (B1 : List Value → World → Prop) (l : List Value) (w : World) : Prop :=
  match l with
  | [t3, t4, t5, t24, t25, t26] => s8_p26 K B1 t3 t4 t5 t24 t25 t26 w
  | _ => False
theorem s8_p27_Fe {K : Value → World → Prop} {B1 : List Value → World → Prop} {t3 t4 t5 t24 t25 t26 : Value} {w : World} : s8_p27_F K B1 [t3, t4, t5, t24, t25, t26] w = s8_p26 K B1 t3 t4 t5 t24 t25 t26 w := by kernel_rfl
def s8_p27 (K : Value → World → Prop) (t3 t4 t5 t24 t25 t26 : Value) (w : World) : Prop :=
  LoopL (s8_p27_F K) [t3, t4, t5, t24, t25, t26] w
def s8_p27_den (K : Value → World → Prop) : (Nat → Value) → World → Prop := fun s w => LoopP (fun M1 s w => s8_p26_den K M1 s w) s w
theorem s8_p27_ok (K : Value → World → Prop) (s : Nat → Value) (w : World) (h : s8_p27 K (s 3) (s 4) (s 5) (s 24) (s 25) (s 26) w) : Tr (s8_p27_den K s w) :=
  tr_loop (G := fun N' s w => s8_p26_den K N' s w) (F := s8_p27_F K) (sel := fun s => [s 3, s 4, s 5, s 24, s 25, s 26]) (s := s) (w := w) (p := s8_p27 K (s 3) (s 4) (s 5) (s 24) (s 25) (s 26) w) (q := s8_p27_den K s w) (fun B s w h => s8_p26_ok K B s w @h) (by kernel_rfl) (by kernel_rfl) @h
def s8_p28 (K : Value → World → Prop) (t0 : Value) (w : World) : Prop :=
  cl Try.prog 13 #[t0] (fun t20 w =>
  un .not t20 (fun t21 w =>
  ifb t21
  (K (.bool true) w)
  (cl Try.prog 14 #[] (fun t22 w =>
  cl Try.prog 16 #[] (fun t23 w =>
  nw 30 #[(.int .i64 0), (.int .i64 0), (.slice none 0 0)] (fun t5 w =>
  stn 3 t5 t23 (fun w =>
  lnS t0 (fun t25 w =>
  s8_p27 K (.slice none 0 0) t22 t5 t0 t25 (.int .i64 0) w) w) w) w) w) w)) w) w
def s8_p28_den (K : Value → World → Prop) : (Nat → Value) → World → Prop := denL Try.prog [(cd (Try.f8.body.getD .skip) [0]), (cd (Try.f8.body.getD .skip) [1, 0, 0]), (cd (Try.f8.body.getD .skip) [1, 0, 1]), (cd (Try.f8.body.getD .skip) [1, 1, 0]), (cd (Try.f8.body.getD .skip) [1, 1, 1, 0]), (cd (Try.f8.body.getD .skip) [1, 1, 1, 1, 0, 0])] (s8_p27_den K) (fun i => (fun _ _ => False)) (s8_R K)
theorem s8_p28_ok (K : Value → World → Prop) (s : Nat → Value) (w : World) (h : s8_p28 K (s 0) w) : Tr (s8_p28_den K s w) :=
  tr_simple (P := Try.prog) (codes := [(cd (Try.f8.body.getD .skip) [0]), (cd (Try.f8.body.getD .skip) [1, 0, 0]), (cd (Try.f8.body.getD .skip) [1, 0, 1]), (cd (Try.f8.body.getD .skip) [1, 1, 0]), (cd (Try.f8.body.getD .skip) [1, 1, 1, 0]), (cd (Try.f8.body.getD .skip) [1, 1, 1, 1, 0, 0])]) (N := (fun s w => s8_p27 K (s 3) (s 4) (s 5) (s 24) (s 25) (s 26) w)) (N' := (s8_p27_den K)) (X := (fun i => (fun _ _ => False))) (X' := (fun i => (fun _ _ => False))) (R := s8_R K) (s := s) (w := w) (p := s8_p28 K (s 0) w) (q := s8_p28_den K s w) (fun s w h => s8_p27_ok K s w @h) (fun i => tr_id) (by kernel_rfl) (by kernel_rfl) @h
/-- the call, from the text -/
theorem c8 (t0 : Value) {K : Value → World → Prop} {w : World} (h : s8_p28 K t0 w) : cl Try.prog 8 #[t0] K w :=
  calls_of_tr (c := (Try.f8.body.getD .skip)) (fn := Try.f8) (q := s8_p28_den K (st0 #[t0]) w) Try.func8 (by kernel_rfl) (by kernel_rfl) (Nat.le_of_ble_eq_true (by kernel_rfl)) (by kernel_rfl) (by kernel_rfl) (s8_p28_ok K (st0 #[t0]) w @h)

/-! ### function 9 : e2e.slotslaw.StaysWithinBounds -/
def s9_R (K : Value → World → Prop) (s : Nat → Value) (w : World) : Prop := retv Try.prog s Try.f9.results.toList (fun vs => K (pack vs) w) w
def s9_p1 (K : Value → World → Prop) (w : World) : Prop :=
  K (.bool true) w
def s9_p1_den (K : Value → World → Prop) : (Nat → Value) → World → Prop := denL Try.prog [(cd (Try.f9.body.getD .skip) [1, 1, 1, 1, 0]), (cd (Try.f9.body.getD .skip) [1, 1, 1, 1, 1])] (fun _ _ => False) (fun i => (fun _ _ => False)) (s9_R K)
theorem s9_p1_ok (K : Value → World → Prop) (s : Nat → Value) (w : World) (h : s9_p1 K w) : Tr (s9_p1_den K s w) :=
  tr_simple (P := Try.prog) (codes := [(cd (Try.f9.body.getD .skip) [1, 1, 1, 1, 0]), (cd (Try.f9.body.getD .skip) [1, 1, 1, 1, 1])]) (N := (fun _ _ => False)) (N' := (fun _ _ => False)) (X := (fun i => (fun _ _ => False))) (X' := (fun i => (fun _ _ => False))) (R := s9_R K) (s := s) (w := w) (p := s9_p1 K w) (q := s9_p1_den K s w) tr_id (fun i => tr_id) (by kernel_rfl) (by kernel_rfl) @h
def s9_p2 (K : Value → World → Prop) (B1 : List Value → World → Prop) (t3 t4 t19 t20 t21 : Value) (w : World) : Prop :=
  boI .add t21 (.int .i64 1) (fun t85 w =>
  B1 [t3, t4, t19, t20, t85] w) w
def s9_p2_den (K : Value → World → Prop) (M1 : (Nat → Value) → World → Prop) : (Nat → Value) → World → Prop := denL Try.prog [(cd (Try.f9.body.getD .skip) [1, 1, 1, 0, 1, 0, 0, 1, 1, 1])] M1 (fun i => (bif Nat.beq i 0 then (s9_p1_den K) else (fun _ _ => False))) (s9_R K)
theorem s9_p2_ok (K : Value → World → Prop) (B1 : List Value → World → Prop) (s : Nat → Value) (w : World) (h : s9_p2 K B1 (s 3) (s 4) (s 19) (s 20) (s 21) w) : Tr (s9_p2_den K (fun s w => B1 [s 3, s 4, s 19, s 20, s 21] w) s w) :=
  tr_simple (P := Try.prog) (codes := [(cd (Try.f9.body.getD .skip) [1, 1, 1, 0, 1, 0, 0, 1, 1, 1])]) (N := (fun s w => B1 [s 3, s 4, s 19, s 20, s 21] w)) (N' := (fun s w => B1 [s 3, s 4, s 19, s 20, s 21] w)) (X := (fun i => (bif Nat.beq i 0 then (fun s w => s9_p1 K w) else (fun _ _ => False)))) (X' := (fun i => (bif Nat.beq i 0 then (s9_p1_den K) else (fun _ _ => False)))) (R := s9_R K) (s := s) (w := w) (p := s9_p2 K B1 (s 3) (s 4) (s 19) (s 20) (s 21) w) (q := s9_p2_den K (fun s w => B1 [s 3, s 4, s 19, s 20, s 21] w) s w) tr_id (fun i => (tr_bif (fun s w h => s9_p1_ok K s w @h) tr_id)) (by kernel_rfl) (by kernel_rfl) @h
def s9_p3 (K : Value → World → Prop) (B1 : List Value → World → Prop) (B2 : List Value → World → Prop) (t3 t4 t7 t19 t20 t21 t39 t40 t41 : Value) (w : World) : Prop :=
  boI .add t41 (.int .i64 1) (fun t84 w =>
  B2 [t3, t4, t7, t19, t20, t21, t39, t40, t84] w) w
def s9_p3_den (K : Value → World → Prop) (M1 : (Nat → Value) → World → Prop) (M2 : (Nat → Value) → World → Prop) : (Nat → Value) → World → Prop := denL Try.prog [(cd (Try.f9.body.getD .skip) [1, 1, 1, 0, 1, 0, 0, 1, 1, 0, 0, 1, 1, 1, 1, 1, 0, 0, 1, 1, 1])] M2 (fun i => (bif Nat.beq i 2 then (s9_p2_den K M1) else (bif Nat.beq i 1 then (s9_p2_den K M1) else (bif Nat.beq i 0 then (s9_p1_den K) else (fun _ _ => False))))) (s9_R K)
theorem s9_p3_ok (K : Value → World → Prop) (B1 : List Value → World → Prop) (B2 : List Value → World → Prop) (s : Nat → Value) (w : World) (h : s9_p3 K B1 B2 (s 3) (s 4) (s 7) (s 19) (s 20) (s 21) (s 39) (s 40) (s 41) w) : Tr (s9_p3_den K (fun s w => B1 [s 3, s 4, s 19, s 20, s 21] w) (fun s w => B2 [s 3, s 4, s 7, s 19, s 20, s 21, s 39, s 40, s 41] w) s w) :=
  tr_simple (P := Try.prog) (codes := [(cd (Try.f9.body.getD .skip) [1, 1, 1, 0, 1, 0, 0, 1, 1, 0, 0, 1, 1, 1, 1, 1, 0, 0, 1, 1, 1])]) (N := (fun s w => B2 [s 3, s 4, s 7, s 19, s 20, s 21, s 39, s 40, s 41] w)) (N' := (fun s w => B2 [s 3, s 4, s 7, s 19, s 20, s 21, s 39, s 40, s 41] w)) (X := (fun i => (bif Nat.beq i 2 then (fun s w => s9_p2 K B1 (s 3) (s 4) (s 19) (s 20) (s 21) w) else (bif Nat.beq i 1 then (fun s w => s9_p2 K B1 (s 3) (s 4) (s 19) (s 20) (s 21) w) else (bif Nat.beq i 0 then (fun s w => s9_p1 K w) else (fun _ _ => False)))))) (X' := (fun i => (bif Nat.beq i 2 then (s9_p2_den K (fun s w => B1 [s 3, s 4, s 19, s 20, s 21] w)) else (bif Nat.beq i 1 then (s9_p2_den K (fun s w => B1 [s 3, s 4, s 19, s 20, s 21] w)) else (bif Nat.beq i 0 then (s9_p1_den K) else (fun _ _ => False)))))) (R := s9_R K) (s := s) (w := w) (p := s9_p3 K B1 B2 (s 3) (s 4) (s 7) (s 19) (s 20) (s 21) (s 39) (s 40) (s 41) w) (q := s9_p3_den K (fun s w => B1 [s 3, s 4, s 19, s 20, s 21] w) (fun s w => B2 [s 3, s 4, s 7, s 19, s 20, s 21, s 39, s 40, s 41] w) s w) tr_id (fun i => (tr_bif (fun s w h => s9_p2_ok K B1 s w @h) (tr_bif (fun s w h => s9_p2_ok K B1 s w @h) (tr_bif (fun s w h => s9_p1_ok K s w @h) tr_id)))) (by kernel_rfl) (by kernel_rfl) @h
def s9_p4 (K : Value → World → Prop) (B1 : List Value → World → Prop) (B2 : List Value → World → Prop) (B3 : List Value → World → Prop) (t3 t4 t7 t9 t19 t20 t21 t39 t40 t41 t50 t51 t52 : Value) (w : World) : Prop :=
  boI .add t52 (.int .i64 1) (fun t83 w =>
  B3 [t3, t4, t7, t9, t19, t20, t21, t39, t40, t41, t50, t51, t83] w) w
def s9_p4_den (K : Value → World → Prop) (M1 : (Nat → Value) → World → Prop) (M2 : (Nat → Value) → World → Prop) (M3 : (Nat → Value) → World → Prop) : (Nat → Value) → World → Prop := denL Try.prog [(cd (Try.f9.body.getD .skip) [1, 1, 1, 0, 1, 0, 0, 1, 1, 0, 0, 1, 1, 1, 1, 1, 0, 0, 1, 1, 0, 0, 1, 1, 0, 0, 1, 1, 1])] M3 (fun i => (bif Nat.beq i 4 then (s9_p3_den K M1 M2) else (bif Nat.beq i 3 then (s9_p3_den K M1 M2) else (bif Nat.beq i 2 then (s9_p2_den K M1) else (bif Nat.beq i 1 then (s9_p2_den K M1) else (bif Nat.beq i 0 then (s9_p1_den K) else (fun _ _ => False))))))) (s9_R K)
theorem s9_p4_ok (K : Value → World → Prop) (B1 : List Value → World → Prop) (B2 : List Value → World → Prop) (B3 : List Value → World → Prop) (s : Nat → Value) (w : World) (h : s9_p4 K B1 B2 B3 (s 3) (s 4) (s 7) (s 9) (s 19) (s 20) (s 21) (s 39) (s 40) (s 41) (s 50) (s 51) (s 52) w) : Tr (s9_p4_den K (fun s w => B1 [s 3, s 4, s 19, s 20, s 21] w) (fun s w => B2 [s 3, s 4, s 7, s 19, s 20, s 21, s 39, s 40, s 41] w) (fun s w => B3 [s 3, s 4, s 7, s 9, s 19, s 20, s 21, s 39, s 40, s 41, s 50, s 51, s 52] w) s w) :=
  tr_simple (P := Try.prog) (codes := [(cd (Try.f9.body.getD .skip) [1, 1, 1, 0, 1, 0, 0, 1, 1, 0, 0, 1, 1, 1, 1, 1, 0, 0, 1, 1, 0, 0, 1, 1, 0, 0, 1, 1, 1])]) (N := (fun s w => B3 [s 3, s 4, s 7, s 9, s 19, s 20, s 21, s 39, s 40, s 41, s 50, s 51, s 52] w)) (N' := (fun s w => B3 [s 3, s 4, s 7, s 9, s 19, s 20, s 21, s 39, s 40, s 41, s 50, s 51, s 52] w)) (X := (fun i => (bif Nat.beq i 4 then (fun s w => s9_p3 K B1 B2 (s 3) (s 4) (s 7) (s 19) (s 20) (s 21) (s 39) (s 40) (s 41) w) else (bif Nat.beq i 3 then (fun s w => s9_p3 K B1 B2 (s 3) (s 4) (s 7) (s 19) (s 20) (s 21) (s 39) (s 40) (s 41) w) else (bif Nat.beq i 2 then (fun s w => s9_p2 K B1 (s 3) (s 4) (s 19) (s 20) (s 21) w) else (bif Nat.beq i 1 then (fun s w => s9_p2 K B1 (s 3) (s 4) (s 19) (s 20) (s 21) w) else (bif Nat.beq i 0 then (fun s w => s9_p1 K w) else (fun _ _ => False)))))))) (X' := (fun i => (bif Nat.beq i 4 then (s9_p3_den K (fun s w => B1 [s 3, s 4, s 19, s 20, s 21] w) (fun s w => B2 [s 3, s 4, s 7, s 19, s 20, s 21, s 39, s 40, s 41] w)) else (bif Nat.beq i 3 then (s9_p3_den K (fun s w => B1 [s 3, s 4, s 19, s 20, s 21] w) (fun s w => B2 [s 3, s 4, s 7, s 19, s 20, s 21, s 39, s 40, s 41] w)) else (bif Nat.beq i 2 then (s9_p2_den K (fun s w => B1 [s 3, s 4, s 19, s 20, s 21] w)) else (bif Nat.beq i 1 then (s9_p2_den K (fun s w => B1 [s 3, s 4, s 19, s 20, s 21] w)) else (bif Nat.beq i 0 then (s9_p1_den K) else (fun _ _ => False)))))))) (R := s9_R K) (s := s) (w := w) (p := s9_p4 K B1 B2 B3 (s 3) (s 4) (s 7) (s 9) (s 19) (s 20) (s 21) (s 39) (s 40) (s 41) (s 50) (s 51) (s 52) w) (q := s9_p4_den K (fun s w => B1 [s 3, s 4, s 19, s 20, s 21] w) (fun s w => B2 [s 3, s 4, s 7, s 19, s 20, s 21, s 39, s 40, s 41] w) (fun s w => B3 [s 3, s 4, s 7, s 9, s 19, s 20, s 21, s 39, s 40, s 41, s 50, s 51, s 52] w) s w) tr_id (fun i => (tr_bif (fun s w h => s9_p3_ok K B1 B2 s w @h) (tr_bif (fun s w h => s9_p3_ok K B1 B2 s w @h) (tr_bif (fun s w h => s9_p2_ok K B1 s w @h) (tr_bif (fun s w h => s9_p2_ok K B1 s w @h) (tr_bif (fun s w h => s9_p1_ok K s w @h) tr_id)))))) (by kernel_rfl) (by kernel_rfl) @h
def s9_p5 (K : Value → World → Prop) (B1 : List Value → World → Prop) (B2 : List Value → World → Prop) (B3 : List Value → World → Prop) (B4 : List Value → World → Prop) (t3 t4 t7 t9 t19 t20 t21 t39 t40 t41 t50 t51 t52 t67 t68 : Value) (w : World) : Prop :=
  boI .lss t68 (.int .i64 3) (fun t69 w =>
  ifb t69
  (iv Try.prog 57 t67 t68 (fun t71 w =>
  boI .lss t71 (.int .i64 0) (fun t73 w =>
  gd t73 false (fun K w => K t71 w) (fun t75 w =>
  gd t73 false (fun K w => K t68 w) (fun t76 w =>
  gd t73 false (fd 2 t9) (fun t77 w =>
  gd t73 false (ixa 3 1 t77 t76) (fun t78 w =>
  gd t73 false (ld1 t78) (fun t79 w =>
  gd t73 false (boI .gtr t75 t79) (fun t80 w =>
  pk t73 (.bool true) t80 (fun t81 w =>
  ifb t81
  (K (.bool false) w)
  (boI .add t68 (.int .i64 1) (fun t82 w =>
  B4 [t3, t4, t7, t9, t19, t20, t21, t39, t40, t41, t50, t51, t52, t67, t82] w) w)) w) w) w) w) w) w) w) w) w)
  (s9_p4 K B1 B2 B3 t3 t4 t7 t9 t19 t20 t21 t39 t40 t41 t50 t51 t52 w)) w
def s9_p5_den (K : Value → World → Prop) (M1 : (Nat → Value) → World → Prop) (M2 : (Nat → Value) → World → Prop) (M3 : (Nat → Value) → World → Prop) (M4 : (Nat → Value) → World → Prop) : (Nat → Value) → World → Prop := denL Try.prog [(cd (Try.f9.body.getD .skip) [1, 1, 1, 0, 1, 0, 0, 1, 1, 0, 0, 1, 1, 1, 1, 1, 0, 0, 1, 1, 0, 0, 1, 1, 0, 0, 1, 1, 0, 0, 1, 1, 1, 0, 0, 0]), (cd (Try.f9.body.getD .skip) [1, 1, 1, 0, 1, 0, 0, 1, 1, 0, 0, 1, 1, 1, 1, 1, 0, 0, 1, 1, 0, 0, 1, 1, 0, 0, 1, 1, 0, 0, 1, 1, 1, 0, 0, 1, 0]), (cd (Try.f9.body.getD .skip) [1, 1, 1, 0, 1, 0, 0, 1, 1, 0, 0, 1, 1, 1, 1, 1, 0, 0, 1, 1, 0, 0, 1, 1, 0, 0, 1, 1, 0, 0, 1, 1, 1, 0, 0, 1, 1, 0]), (cd (Try.f9.body.getD .skip) [1, 1, 1, 0, 1, 0, 0, 1, 1, 0, 0, 1, 1, 1, 1, 1, 0, 0, 1, 1, 0, 0, 1, 1, 0, 0, 1, 1, 0, 0, 1, 1, 1, 0, 0, 1, 1, 1])] M4 (fun i => (bif Nat.beq i 6 then (s9_p4_den K M1 M2 M3) else (bif Nat.beq i 5 then (s9_p4_den K M1 M2 M3) else (bif Nat.beq i 4 then (s9_p3_den K M1 M2) else (bif Nat.beq i 3 then (s9_p3_den K M1 M2) else (bif Nat.beq i 2 then (s9_p2_den K M1) else (bif Nat.beq i 1 then (s9_p2_den K M1) else (bif Nat.beq i 0 then (s9_p1_den K) else (fun _ _ => False))))))))) (s9_R K)
theorem s9_p5_ok (K : Value → World → Prop) (B1 : List Value → World → Prop) (B2 : List Value → World → Prop) (B3 : List Value → World → Prop) (B4 : List Value → World → Prop) (s : Nat → Value) (w : World) (h : s9_p5 K B1 B2 B3 B4 (s 3) (s 4) (s 7) (s 9) (s 19) (s 20) (s 21) (s 39) (s 40) (s 41) (s 50) (s 51) (s 52) (s 67) (s 68) w) : Tr (s9_p5_den K (fun s w => B1 [s 3, s 4, s 19, s 20, s 21] w) (fun s w => B2 [s 3, s 4, s 7, s 19, s 20, s 21, s 39, s 40, s 41] w) (fun s w => B3 [s 3, s 4, s 7, s 9, s 19, s 20, s 21, s 39, s 40, s 41, s 50, s 51, s 52] w) (fun s w => B4 [s 3, s 4, s 7, s 9, s 19, s 20, s 21, s 39, s 40, s 41, s 50, s 51, s 52, s 67, s 68] w) s w) :=
  tr_simple (P := Try.prog) (codes := [(cd (Try.f9.body.getD .skip) [1, 1, 1, 0, 1, 0, 0, 1, 1, 0, 0, 1, 1, 1, 1, 1, 0, 0, 1, 1, 0, 0, 1, 1, 0, 0, 1, 1, 0, 0, 1, 1, 1, 0, 0, 0]), (cd (Try.f9.body.getD .skip) [1, 1, 1, 0, 1, 0, 0, 1, 1, 0, 0, 1, 1, 1, 1, 1, 0, 0, 1, 1, 0, 0, 1, 1, 0, 0, 1, 1, 0, 0, 1, 1, 1, 0, 0, 1, 0]), (cd (Try.f9.body.getD .skip) [1, 1, 1, 0, 1, 0, 0, 1, 1, 0, 0, 1, 1, 1, 1, 1, 0, 0, 1, 1, 0, 0, 1, 1, 0, 0, 1, 1, 0, 0, 1, 1, 1, 0, 0, 1, 1, 0]), (cd (Try.f9.body.getD .skip) [1, 1, 1, 0, 1, 0, 0, 1, 1, 0, 0, 1, 1, 1, 1, 1, 0, 0, 1, 1, 0, 0, 1, 1, 0, 0, 1, 1, 0, 0, 1, 1, 1, 0, 0, 1, 1, 1])]) (N := (fun s w => B4 [s 3, s 4, s 7, s 9, s 19, s 20, s 21, s 39, s 40, s 41, s 50, s 51, s 52, s 67, s 68] w)) (N' := (fun s w => B4 [s 3, s 4, s 7, s 9, s 19, s 20, s 21, s 39, s 40, s 41, s 50, s 51, s 52, s 67, s 68] w)) (X := (fun i => (bif Nat.beq i 6 then (fun s w => s9_p4 K B1 B2 B3 (s 3) (s 4) (s 7) (s 9) (s 19) (s 20) (s 21) (s 39) (s 40) (s 41) (s 50) (s 51) (s 52) w) else (bif Nat.beq i 5 then (fun s w => s9_p4 K B1 B2 B3 (s 3) (s 4) (s 7) (s 9) (s 19) (s 20) (s 21) (s 39) (s 40) (s 41) (s 50) (s 51) (s 52) w) else (bif Nat.beq i 4 then (fun s w => s9_p3 K B1 B2 (s 3) (s 4) (s 7) (s 19) (s 20) (s 21) (s 39) (s 40) (s 41) w) else (bif Nat.beq i 3 then (fun s w => s9_p3 K B1 B2 (s 3) (s 4) (s 7) (s 19) (s 20) (s 21) (s 39) (s 40) (s 41) w) else (bif Nat.beq i 2 then (fun s w => s9_p2 K B1 (s 3) (s 4) (s 19) (s 20) (s 21) w) else (bif Nat.beq i 1 then (fun s w => s9_p2 K B1 (s 3) (s 4) (s 19) (s 20) (s 21) w) else (bif Nat.beq i 0 then (fun s w => s9_p1 K w) else (fun _ _ => False)))))))))) (X' := (fun i => (bif Nat.beq i 6 then (s9_p4_den K (fun s w => B1 [s 3, s 4, s 19, s 20, s 21] w) (fun s w => B2 [s 3, s 4, s 7, s 19, s 20, s 21, s 39, s 40, s 41] w) (fun s w => B3 [s 3, s 4, s 7, s 9, s 19, s 20, s 21, s 39, s 40, s 41, s 50, s 51, s 52] w)) else (bif Nat.beq i 5 then (s9_p4_den K (fun s w => B1 [s 3, s 4, s 19, s 20, s 21] w) (fun s w => B2 [s 3, s 4, s 7, s 19, s 20, s 21, s 39, s 40, s 41] w) (fun s w => B3 [s 3, s 4, s 7, s 9, s 19, s 20, s 21, s 39, s 40, s 41, s 50, s 51, s 52] w)) else (bif Nat.beq i 4 then (s9_p3_den K (fun s w => B1 [s 3, s 4, s 19, s 20, s 21] w) (fun s w => B2 [s 3, s 4, s 7, s 19, s 20, s 21, s 39, s 40, s 41] w)) else (bif Nat.beq i 3 then (s9_p3_den K (fun s w => B1 [s 3, s 4, s 19, s 20, s 21] w) (fun s w => B2 [s 3, s 4, s 7, s 19, s 20, s 21, s 39, s 40, s 41] w)) else (bif Nat.beq i 2 then (s9_p2_den K (fun s w => B1 [s 3, s 4, s 19, s 20, s 21] w)) else (bif Nat.beq i 1 then (s9_p2_den K (fun s w => B1 [s 3, s 4, s 19, s 20, s 21] w)) else (bif Nat.beq i 0 then (s9_p1_den K) else (fun _ _ => False)))))))))) (R := s9_R K) (s := s) (w := w) (p := s9_p5 K B1 B2 B3 B4 (s 3) (s 4) (s 7) (s 9) (s 19) (s 20) (s 21) (s 39) (s 40) (s 41) (s 50) (s 51) (s 52) (s 67) (s 68) w) (q := s9_p5_den K (fun s w => B1 [s 3, s 4, s 19, s 20, s 21] w) (fun s w => B2 [s 3, s 4, s 7, s 19, s 20, s 21, s 39, s 40, s 41] w) (fun s w => B3 [s 3, s 4, s 7, s 9, s 19, s 20, s 21, s 39, s 40, s 41, s 50, s 51, s 52] w) (fun s w => B4 [s 3, s 4, s 7, s 9, s 19, s 20, s 21, s 39, s 40, s 41, s 50, s 51, s 52, s 67, s 68] w) s w) tr_id (fun i => (tr_bif (fun s w h => s9_p4_ok K B1 B2 B3 s w @h) (tr_bif (fun s w h => s9_p4_ok K B1 B2 B3 s w @h) (tr_bif (fun s w h => s9_p3_ok K B1 B2 s w @h) (tr_bif (fun s w h => s9_p3_ok K B1 B2 s w @h) (tr_bif (fun s w h => s9_p2_ok K B1 s w @h) (tr_bif (fun s w h => s9_p2_ok K B1 s w @h) (tr_bif (fun s w h => s9_p1_ok K s w @h) tr_id)))))))) (by kernel_rfl) (by kernel_rfl) @h
def s9_p6_F (K : Value → World → Prop) (B1 : List Value → World → Prop) (B2 : List Value → World → Prop) (B3 : List Value → World → Prop) (B4 : List Value → World → Prop) (l : List Value) (w : World) : Prop :=
  match l with
  | [t3, t4, t7, t9, t19, t20, t21, t39, t40, t41, t50, t51, t52, t67, t68] => s9_p5 K B1 B2 B3 B4 t3 t4 t7 t9 t19 t20 t21 t39 t40 t41 t50 t51 t52 t67 t68 w
  | _ => False
theorem s9_p6_Fe {K : Value → World → Prop} {B1 : List Value → World → Prop} {B2 : List Value → World → Prop} {B3 : List Value → World → Prop} {B4 : List Value → World → Prop} {t3 t4 t7 t9 t19 t20 t21 t39 t40 t41 t50 t51 t52 t67 t68 : Value} {w : World} : s9_p6_F K B1 B2 B3 B4 [t3, t4, t7, t9, t19, t20, t21, t39, t40, t41, t50, t51, t52, t67, t68] w = s9_p5 K B1 B2 B3 B4 t3 t4 t7 t9 t19 t20 t21 t39 t40 t41 t50 t51 t52 t67 t68 w := by kernel_rfl
def s9_p6 (K : Value → World → Prop) (B1 : List Value → World → Prop) (B2 : List Value → World → Prop) (B3 : List Value → World → Prop) (t3 t4 t7 t9 t19 t20 t21 t39 t40 t41 t50 t51 t52 t67 t68 : Value) (w : World) : Prop :=
  LoopL (s9_p6_F K B1 B2 B3) [t3, t4, t7, t9, t19, t20, t21, t39, t40, t41, t50, t51, t52, t67, t68] w
def s9_p6_den (K : Value → World → Prop) (M1 : (Nat → Value) → World → Prop) (M2 : (Nat → Value) → World → Prop) (M3 : (Nat → Value) → World → Prop) : (Nat → Value) → World → Prop := fun s w => LoopP (fun M4 s w => s9_p5_den K M1 M2 M3 M4 s w) s w
theorem s9_p6_ok (K : Value → World → Prop) (B1 : List Value → World → Prop) (B2 : List Value → World → Prop) (B3 : List Value → World → Prop) (s : Nat → Value) (w : World) (h : s9_p6 K B1 B2 B3 (s 3) (s 4) (s 7) (s 9) (s 19) (s 20) (s 21) (s 39) (s 40) (s 41) (s 50) (s 51) (s 52) (s 67) (s 68) w) : Tr (s9_p6_den K (fun s w => B1 [s 3, s 4, s 19, s 20, s 21] w) (fun s w => B2 [s 3, s 4, s 7, s 19, s 20, s 21, s 39, s 40, s 41] w) (fun s w => B3 [s 3, s 4, s 7, s 9, s 19, s 20, s 21, s 39, s 40, s 41, s 50, s 51, s 52] w) s w) :=
  tr_loop (G := fun N' s w => s9_p5_den K (fun s w => B1 [s 3, s 4, s 19, s 20, s 21] w) (fun s w => B2 [s 3, s 4, s 7, s 19, s 20, s 21, s 39, s 40, s 41] w) (fun s w => B3 [s 3, s 4, s 7, s 9, s 19, s 20, s 21, s 39, s 40, s 41, s 50, s 51, s 52] w) N' s w) (F := s9_p6_F K B1 B2 B3) (sel := fun s => [s 3, s 4, s 7, s 9, s 19, s 20, s 21, s 39, s 40, s 41, s 50, s 51, s 52, s 67, s 68]) (s := s) (w := w) (p := s9_p6 K B1 B2 B3 (s 3) (s 4) (s 7) (s 9) (s 19) (s 20) (s 21) (s 39) (s 40) (s 41) (s 50) (s 51) (s 52) (s 67) (s 68) w) (q := s9_p6_den K (fun s w => B1 [s 3, s 4, s 19, s 20, s 21] w) (fun s w => B2 [s 3, s 4, s 7, s 19, s 20, s 21, s 39, s 40, s 41] w) (fun s w => B3 [s 3, s 4, s 7, s 9, s 19, s 20, s 21, s 39, s 40, s 41, s 50, s 51, s 52] w) s w) (fun B s w h => s9_p5_ok K B1 B2 B3 B s w @h) (by kernel_rfl) (by kernel_rfl) @h
def s9_p7 (K : Value → World → Prop) (B1 : List Value → World → Prop) (B2 : List Value → World → Prop) (B3 : List Value → World → Prop) (t3 t4 t7 t9 t19 t20 t21 t39 t40 t41 t50 t51 t52 : Value) (w : World) : Prop :=
  ixs 4 t50 t52 (fun t54 w =>
  ldn 4 t54 (fun t55 w =>
  nw 61 #[(.int .i64 0), (.int .i64 0), (.int .i64 0), (.int .i64 0)] (fun t11 w =>
  stn 4 t11 t55 (fun w =>
  fd 0 t11 (fun t56 w =>
  ld1 t56 (fun t57 w =>
  boI .lss t57 (.int .i64 0) (fun t58 w =>
  gd t58 false (fd 0 t11) (fun t60 w =>
  gd t58 false (ld1 t60) (fun t61 w =>
  gd t58 false (fd 0 t9) (fun t62 w =>
  gd t58 false (ld1 t62) (fun t63 w =>
  gd t58 false (boI .gtr t61 t63) (fun t64 w =>
  pk t58 (.bool true) t64 (fun t65 w =>
  ifb t65
  (K (.bool false) w)
  (fd 1 t11 (fun t66 w =>
  ldn 3 t66 (fun t67 w =>
  s9_p6 K B1 B2 B3 t3 t4 t7 t9 t19 t20 t21 t39 t40 t41 t50 t51 t52 t67 (.int .i64 0) w) w) w)) w) w) w) w) w) w) w) w) w) w) w) w) w
def s9_p7_den (K : Value → World → Prop) (M1 : (Nat → Value) → World → Prop) (M2 : (Nat → Value) → World → Prop) (M3 : (Nat → Value) → World → Prop) : (Nat → Value) → World → Prop := denL Try.prog [(cd (Try.f9.body.getD .skip) [1, 1, 1, 0, 1, 0, 0, 1, 1, 0, 0, 1, 1, 1, 1, 1, 0, 0, 1, 1, 0, 0, 1, 1, 0, 0, 1, 1, 0, 0, 0]), (cd (Try.f9.body.getD .skip) [1, 1, 1, 0, 1, 0, 0, 1, 1, 0, 0, 1, 1, 1, 1, 1, 0, 0, 1, 1, 0, 0, 1, 1, 0, 0, 1, 1, 0, 0, 1, 0, 0]), (cd (Try.f9.body.getD .skip) [1, 1, 1, 0, 1, 0, 0, 1, 1, 0, 0, 1, 1, 1, 1, 1, 0, 0, 1, 1, 0, 0, 1, 1, 0, 0, 1, 1, 0, 0, 1, 0, 1]), (cd (Try.f9.body.getD .skip) [1, 1, 1, 0, 1, 0, 0, 1, 1, 0, 0, 1, 1, 1, 1, 1, 0, 0, 1, 1, 0, 0, 1, 1, 0, 0, 1, 1, 0, 0, 1, 1, 0])] (s9_p6_den K M1 M2 M3) (fun i => (bif Nat.beq i 5 then (s9_p4_den K M1 M2 M3) else (bif Nat.beq i 4 then (s9_p3_den K M1 M2) else (bif Nat.beq i 3 then (s9_p3_den K M1 M2) else (bif Nat.beq i 2 then (s9_p2_den K M1) else (bif Nat.beq i 1 then (s9_p2_den K M1) else (bif Nat.beq i 0 then (s9_p1_den K) else (fun _ _ => False)))))))) (s9_R K)
theorem s9_p7_ok (K : Value → World → Prop) (B1 : List Value → World → Prop) (B2 : List Value → World → Prop) (B3 : List Value → World → Prop) (s : Nat → Value) (w : World) (h : s9_p7 K B1 B2 B3 (s 3) (s 4) (s 7) (s 9) (s 19) (s 20) (s 21) (s 39) (s 40) (s 41) (s 50) (s 51) (s 52) w) : Tr (s9_p7_den K (fun s w => B1 [s 3, s 4, s 19, s 20, s 21] w) (fun s w => B2 [s 3, s 4, s 7, s 19, s 20, s 21, s 39, s 40, s 41] w) (fun s w => B3 [s 3, s 4, s 7, s 9, s 19, s 20, s 21, s 39, s 40, s 41, s 50, s 51, s 52] w) s w) :=
  tr_simple (P := Try.prog) (codes := [(cd (Try.f9.body.getD .skip) [1, 1, 1, 0, 1, 0, 0, 1, 1, 0, 0, 1, 1, 1, 1, 1, 0, 0, 1, 1, 0, 0, 1, 1, 0, 0, 1, 1, 0, 0, 0]), (cd (Try.f9.body.getD .skip) [1, 1, 1, 0, 1, 0, 0, 1, 1, 0, 0, 1, 1, 1, 1, 1, 0, 0, 1, 1, 0, 0, 1, 1, 0, 0, 1, 1, 0, 0, 1, 0, 0]), (cd (Try.f9.body.getD .skip) [1, 1, 1, 0, 1, 0, 0, 1, 1, 0, 0, 1, 1, 1, 1, 1, 0, 0, 1, 1, 0, 0, 1, 1, 0, 0, 1, 1, 0, 0, 1, 0, 1]), (cd (Try.f9.body.getD .skip) [1, 1, 1, 0, 1, 0, 0, 1, 1, 0, 0, 1, 1, 1, 1, 1, 0, 0, 1, 1, 0, 0, 1, 1, 0, 0, 1, 1, 0, 0, 1, 1, 0])]) (N := (fun s w => s9_p6 K B1 B2 B3 (s 3) (s 4) (s 7) (s 9) (s 19) (s 20) (s 21) (s 39) (s 40) (s 41) (s 50) (s 51) (s 52) (s 67) (s 68) w)) (N' := (s9_p6_den K (fun s w => B1 [s 3, s 4, s 19, s 20, s 21] w) (fun s w => B2 [s 3, s 4, s 7, s 19, s 20, s 21, s 39, s 40, s 41] w) (fun s w => B3 [s 3, s 4, s 7, s 9, s 19, s 20, s 21, s 39, s 40, s 41, s 50, s 51, s 52] w))) (X := (fun i => (bif Nat.beq i 5 then (fun s w => s9_p4 K B1 B2 B3 (s 3) (s 4) (s 7) (s 9) (s 19) (s 20) (s 21) (s 39) (s 40) (s 41) (s 50) (s 51) (s 52) w) else (bif Nat.beq i 4 then (fun s w => s9_p3 K B1 B2 (s 3) (s 4) (s 7) (s 19) (s 20) (s 21) (s 39) (s 40) (s 41) w) else (bif Nat.beq i 3 then (fun s w => s9_p3 K B1 B2 (s 3) (s 4) (s 7) (s 19) (s 20) (s 21) (s 39) (s 40) (s 41) w) else (bif Nat.beq i 2 then (fun s w => s9_p2 K B1 (s 3) (s 4) (s 19) (s 20) (s 21) w) else (bif Nat.beq i 1 then (fun s w => s9_p2 K B1 (s 3) (s 4) (s 19) (s 20) (s 21) w) else (bif Nat.beq i 0 then (fun s w => s9_p1 K w) else (fun _ _ => False))))))))) (X' := (fun i => (bif Nat.beq i 5 then (s9_p4_den K (fun s w => B1 [s 3, s 4, s 19, s 20, s 21] w) (fun s w => B2 [s 3, s 4, s 7, s 19, s 20, s 21, s 39, s 40, s 41] w) (fun s w => B3 [s 3, s 4, s 7, s 9, s 19, s 20, s 21, s 39, s 40, s 41, s 50, s 51, s 52] w)) else (bif Nat.beq i 4 then (s9_p3_den K (fun s w => B1 [s 3, s 4, s 19, s 20, s 21] w) (fun s w => B2 [s 3, s 4, s 7, s 19, s 20, s 21, s 39, s 40, s 41] w)) else (bif Nat.beq i 3 then (s9_p3_den K (fun s w => B1 [s 3, s 4, s 19, s 20, s 21] w) (fun s w => B2 [s 3, s 4, s 7, s 19, s 20, s 21, s 39, s 40, s 41] w)) else (bif Nat.beq i 2 then (s9_p2_den K (fun s w => B1 [s 3, s 4, s 19, s 20, s 21] w)) else (bif Nat.beq i 1 then (s9_p2_den K (fun s w => B1 [s 3, s 4, s 19, s 20, s 21] w)) else (bif Nat.beq i 0 then (s9_p1_den K) else (fun _ _ => False))))))))) (R := s9_R K) (s := s) (w := w) (p := s9_p7 K B1 B2 B3 (s 3) (s 4) (s 7) (s 9) (s 19) (s 20) (s 21) (s 39) (s 40) (s 41) (s 50) (s 51) (s 52) w) (q := s9_p7_den K (fun s w => B1 [s 3, s 4, s 19, s 20, s 21] w) (fun s w => B2 [s 3, s 4, s 7, s 19, s 20, s 21, s 39, s 40, s 41] w) (fun s w => B3 [s 3, s 4, s 7, s 9, s 19, s 20, s 21, s 39, s 40, s 41, s 50, s 51, s 52] w) s w) (fun s w h => s9_p6_ok K B1 B2 B3 s w @h) (fun i => (tr_bif (fun s w h => s9_p4_ok K B1 B2 B3 s w @h) (tr_bif (fun s w h => s9_p3_ok K B1 B2 s w @h) (tr_bif (fun s w h => s9_p3_ok K B1 B2 s w @h) (tr_bif (fun s w h => s9_p2_ok K B1 s w @h) (tr_bif (fun s w h => s9_p2_ok K B1 s w @h) (tr_bif (fun s w h => s9_p1_ok K s w @h) tr_id))))))) (by kernel_rfl) (by kernel_rfl) @h
def s9_p8 (K : Value → World → Prop) (B1 : List Value → World → Prop) (B2 : List Value → World → Prop) (B3 : List Value → World → Prop) (t3 t4 t7 t9 t19 t20 t21 t39 t40 t41 t50 t51 t52 : Value) (w : World) : Prop :=
  boI .lss t52 t51 (fun t53 w =>
  ifb t53
  (s9_p7 K B1 B2 B3 t3 t4 t7 t9 t19 t20 t21 t39 t40 t41 t50 t51 t52 w)
  (s9_p3 K B1 B2 t3 t4 t7 t19 t20 t21 t39 t40 t41 w)) w
def s9_p8_den (K : Value → World → Prop) (M1 : (Nat → Value) → World → Prop) (M2 : (Nat → Value) → World → Prop) (M3 : (Nat → Value) → World → Prop) : (Nat → Value) → World → Prop := denL Try.prog [(cd (Try.f9.body.getD .skip) [1, 1, 1, 0, 1, 0, 0, 1, 1, 0, 0, 1, 1, 1, 1, 1, 0, 0, 1, 1, 0, 0, 1, 1, 0, 0, 0]), (cd (Try.f9.body.getD .skip) [1, 1, 1, 0, 1, 0, 0, 1, 1, 0, 0, 1, 1, 1, 1, 1, 0, 0, 1, 1, 0, 0, 1, 1, 0, 0, 1, 0])] (s9_p7_den K M1 M2 M3) (fun i => (bif Nat.beq i 4 then (s9_p3_den K M1 M2) else (bif Nat.beq i 3 then (s9_p3_den K M1 M2) else (bif Nat.beq i 2 then (s9_p2_den K M1) else (bif Nat.beq i 1 then (s9_p2_den K M1) else (bif Nat.beq i 0 then (s9_p1_den K) else (fun _ _ => False))))))) (s9_R K)
theorem s9_p8_ok (K : Value → World → Prop) (B1 : List Value → World → Prop) (B2 : List Value → World → Prop) (B3 : List Value → World → Prop) (s : Nat → Value) (w : World) (h : s9_p8 K B1 B2 B3 (s 3) (s 4) (s 7) (s 9) (s 19) (s 20) (s 21) (s 39) (s 40) (s 41) (s 50) (s 51) (s 52) w) : Tr (s9_p8_den K (fun s w => B1 [s 3, s 4, s 19, s 20, s 21] w) (fun s w => B2 [s 3, s 4, s 7, s 19, s 20, s 21, s 39, s 40, s 41] w) (fun s w => B3 [s 3, s 4, s 7, s 9, s 19, s 20, s 21, s 39, s 40, s 41, s 50, s 51, s 52] w) s w) :=
  tr_simple (P := Try.prog) (codes := [(cd (Try.f9.body.getD .skip) [1, 1, 1, 0, 1, 0, 0, 1, 1, 0, 0, 1, 1, 1, 1, 1, 0, 0, 1, 1, 0, 0, 1, 1, 0, 0, 0]), (cd (Try.f9.body.getD .skip) [1, 1, 1, 0, 1, 0, 0, 1, 1, 0, 0, 1, 1, 1, 1, 1, 0, 0, 1, 1, 0, 0, 1, 1, 0, 0, 1, 0])]) (N := (fun s w => s9_p7 K B1 B2 B3 (s 3) (s 4) (s 7) (s 9) (s 19) (s 20) (s 21) (s 39) (s 40) (s 41) (s 50) (s 51) (s 52) w)) (N' := (s9_p7_den K (fun s w => B1 [s 3, s 4, s 19, s 20, s 21] w) (fun s w => B2 [s 3, s 4, s 7, s 19, s 20, s 21, s 39, s 40, s 41] w) (fun s w => B3 [s 3, s 4, s 7, s 9, s 19, s 20, s 21, s 39, s 40, s 41, s 50, s 51, s 52] w))) (X := (fun i => (bif Nat.beq i 4 then (fun s w => s9_p3 K B1 B2 (s 3) (s 4) (s 7) (s 19) (s 20) (s 21) (s 39) (s 40) (s 41) w) else (bif Nat.beq i 3 then (fun s w => s9_p3 K B1 B2 (s 3) (s 4) (s 7) (s 19) (s 20) (s 21) (s 39) (s 40) (s 41) w) else (bif Nat.beq i 2 then (fun s w => s9_p2 K B1 (s 3) (s 4) (s 19) (s 20) (s 21) w) else (bif Nat.beq i 1 then (fun s w => s9_p2 K B1 (s 3) (s 4) (s 19) (s 20) (s 21) w) else (bif Nat.beq i 0 then (fun s w => s9_p1 K w) else (fun _ _ => False)))))))) (X' := (fun i => (bif Nat.beq i 4 then (s9_p3_den K (fun s w => B1 [s 3, s 4, s 19, s 20, s 21] w) (fun s w => B2 [s 3, s 4, s 7, s 19, s 20, s 21, s 39, s 40, s 41] w)) else (bif Nat.beq i 3 then (s9_p3_den K (fun s w => B1 [s 3, s 4, s 19, s 20, s 21] w) (fun s w => B2 [s 3, s 4, s 7, s 19, s 20, s 21, s 39, s 40, s 41] w)) else (bif Nat.beq i 2 then (s9_p2_den K (fun s w => B1 [s 3, s 4, s 19, s 20, s 21] w)) else (bif Nat.beq i 1 then (s9_p2_den K (fun s w => B1 [s 3, s 4, s 19, s 20, s 21] w)) else (bif Nat.beq i 0 then (s9_p1_den K) else (fun _ _ => False)))))))) (R := s9_R K) (s := s) (w := w) (p := s9_p8 K B1 B2 B3 (s 3) (s 4) (s 7) (s 9) (s 19) (s 20) (s 21) (s 39) (s 40) (s 41) (s 50) (s 51) (s 52) w) (q := s9_p8_den K (fun s w => B1 [s 3, s 4, s 19, s 20, s 21] w) (fun s w => B2 [s 3, s 4, s 7, s 19, s 20, s 21, s 39, s 40, s 41] w) (fun s w => B3 [s 3, s 4, s 7, s 9, s 19, s 20, s 21, s 39, s 40, s 41, s 50, s 51, s 52] w) s w) (fun s w h => s9_p7_ok K B1 B2 B3 s w @h) (fun i => (tr_bif (fun s w h => s9_p3_ok K B1 B2 s w @h) (tr_bif (fun s w h => s9_p3_ok K B1 B2 s w @h) (tr_bif (fun s w h => s9_p2_ok K B1 s w @h) (tr_bif (fun s w h => s9_p2_ok K B1 s w @h) (tr_bif (fun s w h => s9_p1_ok K s w @h) tr_id)))))) (by kernel_rfl) (by kernel_rfl) @h
def s9_p9_F (K : Value → World → Prop) (B1 : List Value → World → Prop) (B2 : List Value → World → Prop) (B3 : List Value → World → Prop) (l : List Value) (w : World) : Prop :=
  match l with
  | [t3, t4, t7, t9, t19, t20, t21, t39, t40, t41, t50, t51, t52] => s9_p8 K B1 B2 B3 t3 t4 t7 t9 t19 t20 t21 t39 t40 t41 t50 t51 t52 w
  | _ => False
theorem s9_p9_Fe {K : Value → World → Prop} {B1 : List Value → World → Prop} {B2 : List Value → World → Prop} {B3 : List Value → World → Prop} {t3 t4 t7 t9 t19 t20 t21 t39 t40 t41 t50 t51 t52 : Value} {w : World} : s9_p9_F K B1 B2 B3 [t3, t4, t7, t9, t19, t20, t21, t39, t40, t41, t50, t51, t52] w = s9_p8 K B1 B2 B3 t3 t4 t7 t9 t19 t20 t21 t39 t40 t41 t50 t51 t52 w := by kernel_rfl
def s9_p9 (K : Value → World → Prop) (B1 : List Value → World → Prop) (B2 : List Value → World → Prop) (t3 t4 t7 t9 t19 t20 t21 t39 t40 t41 t50 t51 t52 : Value) (w : World) : Prop :=
  LoopL (s9_p9_F K B1 B2) [t3, t4, t7, t9, t19, t20, t21, t39, t40, t41, t50, t51, t52] w
def s9_p9_den (K : Value → World → Prop) (M1 : (Nat → Value) → World → Prop) (M2 : (Nat → Value) → World → Prop) : (Nat → Value) → World → Prop := fun s w => LoopP (fun M3 s w => s9_p8_den K M1 M2 M3 s w) s w
theorem s9_p9_ok (K : Value → World → Prop) (B1 : List Value → World → Prop) (B2 : List Value → World → Prop) (s : Nat → Value) (w : World) (h : s9_p9 K B1 B2 (s 3) (s 4) (s 7) (s 9) (s 19) (s 20) (s 21) (s 39) (s 40) (s 41) (s 50) (s 51) (s 52) w) : Tr (s9_p9_den K (fun s w => B1 [s 3, s 4, s 19, s 20, s 21] w) (fun s w => B2 [s 3, s 4, s 7, s 19, s 20, s 21, s 39, s 40, s 41] w) s w) :=
  tr_loop (G := fun N' s w => s9_p8_den K (fun s w => B1 [s 3, s 4, s 19, s 20, s 21] w) (fun s w => B2 [s 3, s 4, s 7, s 19, s 20, s 21, s 39, s 40, s 41] w) N' s w) (F := s9_p9_F K B1 B2) (sel := fun s => [s 3, s 4, s 7, s 9, s 19, s 20, s 21, s 39, s 40, s 41, s 50, s 51, s 52]) (s := s) (w := w) (p := s9_p9 K B1 B2 (s 3) (s 4) (s 7) (s 9) (s 19) (s 20) (s 21) (s 39) (s 40) (s 41) (s 50) (s 51) (s 52) w) (q := s9_p9_den K (fun s w => B1 [s 3, s 4, s 19, s 20, s 21] w) (fun s w => B2 [s 3, s 4, s 7, s 19, s 20, s 21, s 39, s 40, s 41] w) s w) (fun B s w h => s9_p8_ok K B1 B2 B s w @h) (by kernel_rfl) (by kernel_rfl) @h
def s9_p10 (K : Value → World → Prop) (B1 : List Value → World → Prop) (B2 : List Value → World → Prop) (t3 t4 t7 t19 t20 t21 t39 t40 t41 : Value) (w : World) : Prop :=
  ixs 5 t39 t41 (fun t44 w =>
  ldn 5 t44 (fun t45 w =>
  nw 59 #[(.int .i64 0), (.int .i64 0), (.int .i64 0), (.int .i64 0), (.int .i64 0)] (fun t9 w =>
  stn 5 t9 t45 (fun w =>
  fd 3 t7 (fun t46 w =>
  ld1 t46 (fun t47 w =>
  ixs 1 t47 t41 (fun t49 w =>
  ld1 t49 (fun t50 w =>
  lnS t50 (fun t51 w =>
  s9_p9 K B1 B2 t3 t4 t7 t9 t19 t20 t21 t39 t40 t41 t50 t51 (.int .i64 0) w) w) w) w) w) w) w) w) w) w
def s9_p10_den (K : Value → World → Prop) (M1 : (Nat → Value) → World → Prop) (M2 : (Nat → Value) → World → Prop) : (Nat → Value) → World → Prop := denL Try.prog [(cd (Try.f9.body.getD .skip) [1, 1, 1, 0, 1, 0, 0, 1, 1, 0, 0, 1, 1, 1, 1, 1, 0, 0, 1, 1, 0, 0, 0]), (cd (Try.f9.body.getD .skip) [1, 1, 1, 0, 1, 0, 0, 1, 1, 0, 0, 1, 1, 1, 1, 1, 0, 0, 1, 1, 0, 0, 1, 0])] (s9_p9_den K M1 M2) (fun i => (bif Nat.beq i 3 then (s9_p3_den K M1 M2) else (bif Nat.beq i 2 then (s9_p2_den K M1) else (bif Nat.beq i 1 then (s9_p2_den K M1) else (bif Nat.beq i 0 then (s9_p1_den K) else (fun _ _ => False)))))) (s9_R K)
theorem s9_p10_ok (K : Value → World → Prop) (B1 : List Value → World → Prop) (B2 : List Value → World → Prop) (s : Nat → Value) (w : World) (h : s9_p10 K B1 B2 (s 3) (s 4) (s 7) (s 19) (s 20) (s 21) (s 39) (s 40) (s 41) w) : Tr (s9_p10_den K (fun s w => B1 [s 3, s 4, s 19, s 20, s 21] w) (fun s w => B2 [s 3, s 4, s 7, s 19, s 20, s 21, s 39, s 40, s 41] w) s w) :=
  tr_simple (P := Try.prog) (codes := [(cd (Try.f9.body.getD .skip) [1, 1, 1, 0, 1, 0, 0, 1, 1, 0, 0, 1, 1, 1, 1, 1, 0, 0, 1, 1, 0, 0, 0]), (cd (Try.f9.body.getD .skip) [1, 1, 1, 0, 1, 0, 0, 1, 1, 0, 0, 1, 1, 1, 1, 1, 0, 0, 1, 1, 0, 0, 1, 0])]) (N := (fun s w => s9_p9 K B1 B2 (s 3) (s 4) (s 7) (s 9) (s 19) (s 20) (s 21) (s 39) (s 40) (s 41) (s 50) (s 51) (s 52) w)) (N' := (s9_p9_den K (fun s w => B1 [s 3, s 4, s 19, s 20, s 21] w) (fun s w => B2 [s 3, s 4, s 7, s 19, s 20, s 21, s 39, s 40, s 41] w))) (X := (fun i => (bif Nat.beq i 3 then (fun s w => s9_p3 K B1 B2 (s 3) (s 4) (s 7) (s 19) (s 20) (s 21) (s 39) (s 40) (s 41) w) else (bif Nat.beq i 2 then (fun s w => s9_p2 K B1 (s 3) (s 4) (s 19) (s 20) (s 21) w) else (bif Nat.beq i 1 then (fun s w => s9_p2 K B1 (s 3) (s 4) (s 19) (s 20) (s 21) w) else (bif Nat.beq i 0 then (fun s w => s9_p1 K w) else (fun _ _ => False))))))) (X' := (fun i => (bif Nat.beq i 3 then (s9_p3_den K (fun s w => B1 [s 3, s 4, s 19, s 20, s 21] w) (fun s w => B2 [s 3, s 4, s 7, s 19, s 20, s 21, s 39, s 40, s 41] w)) else (bif Nat.beq i 2 then (s9_p2_den K (fun s w => B1 [s 3, s 4, s 19, s 20, s 21] w)) else (bif Nat.beq i 1 then (s9_p2_den K (fun s w => B1 [s 3, s 4, s 19, s 20, s 21] w)) else (bif Nat.beq i 0 then (s9_p1_den K) else (fun _ _ => False))))))) (R := s9_R K) (s := s) (w := w) (p := s9_p10 K B1 B2 (s 3) (s 4) (s 7) (s 19) (s 20) (s 21) (s 39) (s 40) (s 41) w) (q := s9_p10_den K (fun s w => B1 [s 3, s 4, s 19, s 20, s 21] w) (fun s w => B2 [s 3, s 4, s 7, s 19, s 20, s 21, s 39, s 40, s 41] w) s w) (fun s w h => s9_p9_ok K B1 B2 s w @h) (fun i => (tr_bif (fun s w h => s9_p3_ok K B1 B2 s w @h) (tr_bif (fun s w h => s9_p2_ok K B1 s w @h) (tr_bif (fun s w h => s9_p2_ok K B1 s w @h) (tr_bif (fun s w h => s9_p1_ok K s w @h) tr_id))))) (by kernel_rfl) (by kernel_rfl) @h
def s9_p11 (K : Value → World → Prop) (B1 : List Value → World → Prop) (B2 : List Value → World → Prop) (t3 t4 t7 t19 t20 t21 t39 t40 t41 : Value) (w : World) : Prop :=
  boI .lss t41 t40 (fun t42 w =>
  ifb t42
  (s9_p10 K B1 B2 t3 t4 t7 t19 t20 t21 t39 t40 t41 w)
  (s9_p2 K B1 t3 t4 t19 t20 t21 w)) w
def s9_p11_den (K : Value → World → Prop) (M1 : (Nat → Value) → World → Prop) (M2 : (Nat → Value) → World → Prop) : (Nat → Value) → World → Prop := denL Try.prog [(cd (Try.f9.body.getD .skip) [1, 1, 1, 0, 1, 0, 0, 1, 1, 0, 0, 1, 1, 1, 1, 1, 0, 0, 0]), (cd (Try.f9.body.getD .skip) [1, 1, 1, 0, 1, 0, 0, 1, 1, 0, 0, 1, 1, 1, 1, 1, 0, 0, 1, 0])] (s9_p10_den K M1 M2) (fun i => (bif Nat.beq i 2 then (s9_p2_den K M1) else (bif Nat.beq i 1 then (s9_p2_den K M1) else (bif Nat.beq i 0 then (s9_p1_den K) else (fun _ _ => False))))) (s9_R K)
theorem s9_p11_ok (K : Value → World → Prop) (B1 : List Value → World → Prop) (B2 : List Value → World → Prop) (s : Nat → Value) (w : World) (h : s9_p11 K B1 B2 (s 3) (s 4) (s 7) (s 19) (s 20) (s 21) (s 39) (s 40) (s 41) w) : Tr (s9_p11_den K (fun s w => B1 [s 3, s 4, s 19, s 20, s 21] w) (fun s w => B2 [s 3, s 4, s 7, s 19, s 20, s 21, s 39, s 40, s 41] w) s w) :=
  tr_simple (P := Try.prog) (codes := [(cd (Try.f9.body.getD .skip) [1, 1, 1, 0, 1, 0, 0, 1, 1, 0, 0, 1, 1, 1, 1, 1, 0, 0, 0]), (cd (Try.f9.body.getD .skip) [1, 1, 1, 0, 1, 0, 0, 1, 1, 0, 0, 1, 1, 1, 1, 1, 0, 0, 1, 0])]) (N := (fun s w => s9_p10 K B1 B2 (s 3) (s 4) (s 7) (s 19) (s 20) (s 21) (s 39) (s 40) (s 41) w)) (N' := (s9_p10_den K (fun s w => B1 [s 3, s 4, s 19, s 20, s 21] w) (fun s w => B2 [s 3, s 4, s 7, s 19, s 20, s 21, s 39, s 40, s 41] w))) (X := (fun i => (bif Nat.beq i 2 then (fun s w => s9_p2 K B1 (s 3) (s 4) (s 19) (s 20) (s 21) w) else (bif Nat.beq i 1 then (fun s w => s9_p2 K B1 (s 3) (s 4) (s 19) (s 20) (s 21) w) else (bif Nat.beq i 0 then (fun s w => s9_p1 K w) else (fun _ _ => False)))))) (X' := (fun i => (bif Nat.beq i 2 then (s9_p2_den K (fun s w => B1 [s 3, s 4, s 19, s 20, s 21] w)) else (bif Nat.beq i 1 then (s9_p2_den K (fun s w => B1 [s 3, s 4, s 19, s 20, s 21] w)) else (bif Nat.beq i 0 then (s9_p1_den K) else (fun _ _ => False)))))) (R := s9_R K) (s := s) (w := w) (p := s9_p11 K B1 B2 (s 3) (s 4) (s 7) (s 19) (s 20) (s 21) (s 39) (s 40) (s 41) w) (q := s9_p11_den K (fun s w => B1 [s 3, s 4, s 19, s 20, s 21] w) (fun s w => B2 [s 3, s 4, s 7, s 19, s 20, s 21, s 39, s 40, s 41] w) s w) (fun s w h => s9_p10_ok K B1 B2 s w @h) (fun i => (tr_bif (fun s w h => s9_p2_ok K B1 s w @h) (tr_bif (fun s w h => s9_p2_ok K B1 s w @h) (tr_bif (fun s w h => s9_p1_ok K s w @h) tr_id)))) (by kernel_rfl) (by kernel_rfl) @h
def s9_p12_F (K : Value → World → Prop) (B1 : List Value → World → Prop) (B2 : List Value → World → Prop) (l : List Value) (w : World) : Prop :=
  match l with
  | [t3, t4, t7, t19, t20, t21, t39, t40, t41] => s9_p11 K B1 B2 t3 t4 t7 t19 t20 t21 t39 t40 t41 w
  | _ => False
theorem s9_p12_Fe {K : Value → World → Prop} {B1 : List Value → World → Prop} {B2 : List Value → World → Prop} {t3 t4 t7 t19 t20 t21 t39 t40 t41 : Value} {w : World} : s9_p12_F K B1 B2 [t3, t4, t7, t19, t20, t21, t39, t40, t41] w = s9_p11 K B1 B2 t3 t4 t7 t19 t20 t21 t39 t40 t41 w := by kernel_rfl
def s9_p12 (K : Value → World → Prop) (B1 : List Value → World → Prop) (t3 t4 t7 t19 t20 t21 t39 t40 t41 : Value) (w : World) : Prop :=
  LoopL (s9_p12_F K B1) [t3, t4, t7, t19, t20, t21, t39, t40, t41] w
def s9_p12_den (K : Value → World → Prop) (M1 : (Nat → Value) → World → Prop) : (Nat → Value) → World → Prop := fun s w => LoopP (fun M2 s w => s9_p11_den K M1 M2 s w) s w
theorem s9_p12_ok (K : Value → World → Prop) (B1 : List Value → World → Prop) (s : Nat → Value) (w : World) (h : s9_p12 K B1 (s 3) (s 4) (s 7) (s 19) (s 20) (s 21) (s 39) (s 40) (s 41) w) : Tr (s9_p12_den K (fun s w => B1 [s 3, s 4, s 19, s 20, s 21] w) s w) :=
  tr_loop (G := fun N' s w => s9_p11_den K (fun s w => B1 [s 3, s 4, s 19, s 20, s 21] w) N' s w) (F := s9_p12_F K B1) (sel := fun s => [s 3, s 4, s 7, s 19, s 20, s 21, s 39, s 40, s 41]) (s := s) (w := w) (p := s9_p12 K B1 (s 3) (s 4) (s 7) (s 19) (s 20) (s 21) (s 39) (s 40) (s 41) w) (q := s9_p12_den K (fun s w => B1 [s 3, s 4, s 19, s 20, s 21] w) s w) (fun B s w h => s9_p11_ok K B1 B s w @h) (by kernel_rfl) (by kernel_rfl) @h
def s9_p13 (K : Value → World → Prop) (B1 : List Value → World → Prop) (t3 t4 t19 t20 t21 : Value) (w : World) : Prop :=
  ixs 6 t19 t21 (fun t23 w =>
  ldn 6 t23 (fun t24 w =>
  nw 34 #[(.int .i64 0), (.int .i64 0), (.int .i64 0), (.int .i64 0), (.int .i64 0), (.int .i64 0)] (fun t6 w =>
  stn 6 t6 t24 (fun w =>
  ldn 6 t6 (fun t26 w =>
  cl Try.prog 17 #[t3, t26] (fun t27 w =>
  cl Try.prog 20 #[t3] (fun t29 w =>
  nw 43 #[(.bool false), (.int .i64 0), (.slice none 0 0), (.slice none 0 0)] (fun t7 w =>
  stn 4 t7 t29 (fun w =>
  fd 0 t7 (fun t30 w =>
  ld1 t30 (fun t31 w =>
  un .not t31 (fun t32 w =>
  gd t32 false (fun K w => K t3 w) (fun t34 w =>
  gd t32 false (cl Try.prog 34 #[t34]) (fun t35 w =>
  gd t32 false (un .not t35) (fun t36 w =>
  pk t32 (.bool true) t36 (fun t37 w =>
  ifb t37
  (K (.bool false) w)
  (fd 2 t4 (fun t38 w =>
  ld1 t38 (fun t39 w =>
  lnS t39 (fun t40 w =>
  s9_p12 K B1 t3 t4 t7 t19 t20 t21 t39 t40 (.int .i64 0) w) w) w) w)) w) w) w) w) w) w) w) w) w) w) w) w) w) w) w) w
def s9_p13_den (K : Value → World → Prop) (M1 : (Nat → Value) → World → Prop) : (Nat → Value) → World → Prop := denL Try.prog [(cd (Try.f9.body.getD .skip) [1, 1, 1, 0, 1, 0, 0, 1, 1, 0, 0, 0]), (cd (Try.f9.body.getD .skip) [1, 1, 1, 0, 1, 0, 0, 1, 1, 0, 0, 1, 0]), (cd (Try.f9.body.getD .skip) [1, 1, 1, 0, 1, 0, 0, 1, 1, 0, 0, 1, 1, 0]), (cd (Try.f9.body.getD .skip) [1, 1, 1, 0, 1, 0, 0, 1, 1, 0, 0, 1, 1, 1, 0, 0]), (cd (Try.f9.body.getD .skip) [1, 1, 1, 0, 1, 0, 0, 1, 1, 0, 0, 1, 1, 1, 0, 1]), (cd (Try.f9.body.getD .skip) [1, 1, 1, 0, 1, 0, 0, 1, 1, 0, 0, 1, 1, 1, 1, 0])] (s9_p12_den K M1) (fun i => (bif Nat.beq i 1 then (s9_p2_den K M1) else (bif Nat.beq i 0 then (s9_p1_den K) else (fun _ _ => False)))) (s9_R K)
theorem s9_p13_ok (K : Value → World → Prop) (B1 : List Value → World → Prop) (s : Nat → Value) (w : World) (h : s9_p13 K B1 (s 3) (s 4) (s 19) (s 20) (s 21) w) : Tr (s9_p13_den K (fun s w => B1 [s 3, s 4, s 19, s 20, s 21] w) s w) :=
  tr_simple (P := Try.prog) (codes := [(cd (Try.f9.body.getD .skip) [1, 1, 1, 0, 1, 0, 0, 1, 1, 0, 0, 0]), (cd (Try.f9.body.getD .skip) [1, 1, 1, 0, 1, 0, 0, 1, 1, 0, 0, 1, 0]), (cd (Try.f9.body.getD .skip) [1, 1, 1, 0, 1, 0, 0, 1, 1, 0, 0, 1, 1, 0]), (cd (Try.f9.body.getD .skip) [1, 1, 1, 0, 1, 0, 0, 1, 1, 0, 0, 1, 1, 1, 0, 0]), (cd (Try.f9.body.getD .skip) [1, 1, 1, 0, 1, 0, 0, 1, 1, 0, 0, 1, 1, 1, 0, 1]), (cd (Try.f9.body.getD .skip) [1, 1, 1, 0, 1, 0, 0, 1, 1, 0, 0, 1, 1, 1, 1, 0])]) (N := (fun s w => s9_p12 K B1 (s 3) (s 4) (s 7) (s 19) (s 20) (s 21) (s 39) (s 40) (s 41) w)) (N' := (s9_p12_den K (fun s w => B1 [s 3, s 4, s 19, s 20, s 21] w))) (X := (fun i => (bif Nat.beq i 1 then (fun s w => s9_p2 K B1 (s 3) (s 4) (s 19) (s 20) (s 21) w) else (bif Nat.beq i 0 then (fun s w => s9_p1 K w) else (fun _ _ => False))))) (X' := (fun i => (bif Nat.beq i 1 then (s9_p2_den K (fun s w => B1 [s 3, s 4, s 19, s 20, s 21] w)) else (bif Nat.beq i 0 then (s9_p1_den K) else (fun _ _ => False))))) (R := s9_R K) (s := s) (w := w) (p := s9_p13 K B1 (s 3) (s 4) (s 19) (s 20) (s 21) w) (q := s9_p13_den K (fun s w => B1 [s 3, s 4, s 19, s 20, s 21] w) s w) (fun s w h => s9_p12_ok K B1 s w @h) (fun i => (tr_bif (fun s w h => s9_p2_ok K B1 s w @h) (tr_bif (fun s w h => s9_p1_ok K s w @h) tr_id))) (by kernel_rfl) (by kernel_rfl) @h
def s9_p14 (K : Value → World → Prop) (B1 : List Value → World → Prop) (t3 t4 t19 t20 t21 : Value) (w : World) : Prop :=
  boI .lss t21 t20 (fun t22 w =>
  ifb t22
  (s9_p13 K B1 t3 t4 t19 t20 t21 w)
  (s9_p1 K w)) w
def s9_p14_den (K : Value → World → Prop) (M1 : (Nat → Value) → World → Prop) : (Nat → Value) → World → Prop := denL Try.prog [(cd (Try.f9.body.getD .skip) [1, 1, 1, 0, 1, 0, 0, 0]), (cd (Try.f9.body.getD .skip) [1, 1, 1, 0, 1, 0, 0, 1, 0])] (s9_p13_den K M1) (fun i => (bif Nat.beq i 0 then (s9_p1_den K) else (fun _ _ => False))) (s9_R K)
theorem s9_p14_ok (K : Value → World → Prop) (B1 : List Value → World → Prop) (s : Nat → Value) (w : World) (h : s9_p14 K B1 (s 3) (s 4) (s 19) (s 20) (s 21) w) : Tr (s9_p14_den K (fun s w => B1 [s 3, s 4, s 19, s 20, s 21] w) s w) :=
  tr_simple (P := Try.prog) (codes := [(cd (Try.f9.body.getD .skip) [1, 1, 1, 0, 1, 0, 0, 0]), (cd (Try.f9.body.getD .skip) [1, 1, 1, 0, 1, 0, 0, 1, 0])]) (N := (fun s w => s9_p13 K B1 (s 3) (s 4) (s 19) (s 20) (s 21) w)) (N' := (s9_p13_den K (fun s w => B1 [s 3, s 4, s 19, s 20, s 21] w))) (X := (fun i => (bif Nat.beq i 0 then (fun s w => s9_p1 K w) else (fun _ _ => False)))) (X' := (fun i => (bif Nat.beq i 0 then (s9_p1_den K) else (fun _ _ => False)))) (R := s9_R K) (s := s) (w := w) (p := s9_p14 K B1 (s 3) (s 4) (s 19) (s 20) (s 21) w) (q := s9_p14_den K (fun s w => B1 [s 3, s 4, s 19, s 20, s 21] w) s w) (fun s w h => s9_p13_ok K B1 s w @h) (fun i => (tr_bif (fun s w h => s9_p1_ok K s w @h) tr_id)) (by kernel_rfl) (by kernel_rfl) @h
def s9_p15_F (K : Value → World → Prop) (B1 : List Value → World → Prop) (l : List Value) (w : World) : Prop :=
  match l with
  | [t3, t4, t19, t20, t21] => s9_p14 K B1 t3 t4 t19 t20 t21 w
  | _ => False
theorem s9_p15_Fe {K : Value → World → Prop} {B1 : List Value → World → Prop} {t3 t4 t19 t20 t21 : Value} {w : World} : s9_p15_F K B1 [t3, t4, t19, t20, t21] w = s9_p14 K B1 t3 t4 t19 t20 t21 w := by kernel_rfl
def s9_p15 (K : Value → World → Prop) (t3 t4 t19 t20 t21 : Value) (w : World) : Prop :=
  LoopL (s9_p15_F K) [t3, t4, t19, t20, t21] w
def s9_p15_den (K : Value → World → Prop) : (Nat → Value) → World → Prop := fun s w => LoopP (fun M1 s w => s9_p14_den K M1 s w) s w
theorem s9_p15_ok (K : Value → World → Prop) (s : Nat → Value) (w : World) (h : s9_p15 K (s 3) (s 4) (s 19) (s 20) (s 21) w) : Tr (s9_p15_den K s w) :=
  tr_loop (G := fun N' s w => s9_p14_den K N' s w) (F := s9_p15_F K) (sel := fun s => [s 3, s 4, s 19, s 20, s 21]) (s := s) (w := w) (p := s9_p15 K (s 3) (s 4) (s 19) (s 20) (s 21) w) (q := s9_p15_den K s w) (fun B s w h => s9_p14_ok K B s w @h) (by kernel_rfl) (by kernel_rfl) @h
def s9_p16 (K : Value → World → Prop) (t0 : Value) (w : World) : Prop :=
  cl Try.prog 13 #[t0] (fun t15 w =>
  un .not t15 (fun t16 w =>
  ifb t16
  (K (.bool true) w)
  (cl Try.prog 14 #[] (fun t17 w =>
  cl Try.prog 16 #[] (fun t18 w =>
  nw 30 #[(.int .i64 0), (.int .i64 0), (.slice none 0 0)] (fun t4 w =>
  stn 3 t4 t18 (fun w =>
  lnS t0 (fun t20 w =>
  s9_p15 K t17 t4 t0 t20 (.int .i64 0) w) w) w) w) w) w)) w) w
def s9_p16_den (K : Value → World → Prop) : (Nat → Value) → World → Prop := denL Try.prog [(cd (Try.f9.body.getD .skip) [0]), (cd (Try.f9.body.getD .skip) [1, 0, 0]), (cd (Try.f9.body.getD .skip) [1, 0, 1]), (cd (Try.f9.body.getD .skip) [1, 1, 0]), (cd (Try.f9.body.getD .skip) [1, 1, 1, 0, 0])] (s9_p15_den K) (fun i => (fun _ _ => False)) (s9_R K)
theorem s9_p16_ok (K : Value → World → Prop) (s : Nat → Value) (w : World) (h : s9_p16 K (s 0) w) : Tr (s9_p16_den K s w) :=
  tr_simple (P := Try.prog) (codes := [(cd (Try.f9.body.getD .skip) [0]), (cd (Try.f9.body.getD .skip) [1, 0, 0]), (cd (Try.f9.body.getD .skip) [1, 0, 1]), (cd (Try.f9.body.getD .skip) [1, 1, 0]), (cd (Try.f9.body.getD .skip) [1, 1, 1, 0, 0])]) (N := (fun s w => s9_p15 K (s 3) (s 4) (s 19) (s 20) (s 21) w)) (N' := (s9_p15_den K)) (X := (fun i => (fun _ _ => False))) (X' := (fun i => (fun _ _ => False))) (R := s9_R K) (s := s) (w := w) (p := s9_p16 K (s 0) w) (q := s9_p16_den K s w) (fun s w h => s9_p15_ok K s w @h) (fun i => tr_id) (by kernel_rfl) (by kernel_rfl) @h
/-- the call, from the text -/
theorem c9 (t0 : Value) {K : Value → World → Prop} {w : World} (h : s9_p16 K t0 w) : cl Try.prog 9 #[t0] K w :=
  calls_of_tr (c := (Try.f9.body.getD .skip)) (fn := Try.f9) (q := s9_p16_den K (st0 #[t0]) w) Try.func9 (by kernel_rfl) (by kernel_rfl) (Nat.le_of_ble_eq_true (by kernel_rfl)) (by kernel_rfl) (by kernel_rfl) (s9_p16_ok K (st0 #[t0]) w @h)

/-! ### function 10 : e2e.slotslaw.RefusedChangesNothing -/
def s10_R (K : Value → World → Prop) (s : Nat → Value) (w : World) : Prop := retv Try.prog s Try.f10.results.toList (fun vs => K (pack vs) w) w
def s10_p1 (K : Value → World → Prop) (w : World) : Prop :=
  K (.bool true) w
def s10_p1_den (K : Value → World → Prop) : (Nat → Value) → World → Prop := denL Try.prog [(cd (Try.f10.body.getD .skip) [1, 1, 1, 1, 0]), (cd (Try.f10.body.getD .skip) [1, 1, 1, 1, 1])] (fun _ _ => False) (fun i => (fun _ _ => False)) (s10_R K)
theorem s10_p1_ok (K : Value → World → Prop) (s : Nat → Value) (w : World) (h : s10_p1 K w) : Tr (s10_p1_den K s w) :=
  tr_simple (P := Try.prog) (codes := [(cd (Try.f10.body.getD .skip) [1, 1, 1, 1, 0]), (cd (Try.f10.body.getD .skip) [1, 1, 1, 1, 1])]) (N := (fun _ _ => False)) (N' := (fun _ _ => False)) (X := (fun i => (fun _ _ => False))) (X' := (fun i => (fun _ _ => False))) (R := s10_R K) (s := s) (w := w) (p := s10_p1 K w) (q := s10_p1_den K s w) tr_id (fun i => tr_id) (by kernel_rfl) (by kernel_rfl) @h
def s10_p2 (K : Value → World → Prop) (B1 : List Value → World → Prop) (t3 t14 t15 t16 : Value) (w : World) : Prop :=
  boI .add t16 (.int .i64 1) (fun t54 w =>
  B1 [t3, t14, t15, t54] w) w
def s10_p2_den (K : Value → World → Prop) (M1 : (Nat → Value) → World → Prop) : (Nat → Value) → World → Prop := denL Try.prog [(cd (Try.f10.body.getD .skip) [1, 1, 1, 0, 1, 0, 0, 1, 1, 1])] M1 (fun i => (bif Nat.beq i 0 then (s10_p1_den K) else (fun _ _ => False))) (s10_R K)
theorem s10_p2_ok (K : Value → World → Prop) (B1 : List Value → World → Prop) (s : Nat → Value) (w : World) (h : s10_p2 K B1 (s 3) (s 14) (s 15) (s 16) w) : Tr (s10_p2_den K (fun s w => B1 [s 3, s 14, s 15, s 16] w) s w) :=
  tr_simple (P := Try.prog) (codes := [(cd (Try.f10.body.getD .skip) [1, 1, 1, 0, 1, 0, 0, 1, 1, 1])]) (N := (fun s w => B1 [s 3, s 14, s 15, s 16] w)) (N' := (fun s w => B1 [s 3, s 14, s 15, s 16] w)) (X := (fun i => (bif Nat.beq i 0 then (fun s w => s10_p1 K w) else (fun _ _ => False)))) (X' := (fun i => (bif Nat.beq i 0 then (s10_p1_den K) else (fun _ _ => False)))) (R := s10_R K) (s := s) (w := w) (p := s10_p2 K B1 (s 3) (s 14) (s 15) (s 16) w) (q := s10_p2_den K (fun s w => B1 [s 3, s 14, s 15, s 16] w) s w) tr_id (fun i => (tr_bif (fun s w h => s10_p1_ok K s w @h) tr_id)) (by kernel_rfl) (by kernel_rfl) @h
def s10_p3 (K : Value → World → Prop) (B1 : List Value → World → Prop) (t3 t14 t15 t16 t53 : Value) (w : World) : Prop :=
  ifb t53
  (K (.bool false) w)
  (s10_p2 K B1 t3 t14 t15 t16 w)
def s10_p3_den (K : Value → World → Prop) (M1 : (Nat → Value) → World → Prop) : (Nat → Value) → World → Prop := denL Try.prog [(cd (Try.f10.body.getD .skip) [1, 1, 1, 0, 1, 0, 0, 1, 1, 0, 0, 1, 1, 1, 1, 1])] (s10_p2_den K M1) (fun i => (bif Nat.beq i 1 then (s10_p2_den K M1) else (bif Nat.beq i 0 then (s10_p1_den K) else (fun _ _ => False)))) (s10_R K)
theorem s10_p3_ok (K : Value → World → Prop) (B1 : List Value → World → Prop) (s : Nat → Value) (w : World) (h : s10_p3 K B1 (s 3) (s 14) (s 15) (s 16) (s 53) w) : Tr (s10_p3_den K (fun s w => B1 [s 3, s 14, s 15, s 16] w) s w) :=
  tr_simple (P := Try.prog) (codes := [(cd (Try.f10.body.getD .skip) [1, 1, 1, 0, 1, 0, 0, 1, 1, 0, 0, 1, 1, 1, 1, 1])]) (N := (fun s w => s10_p2 K B1 (s 3) (s 14) (s 15) (s 16) w)) (N' := (s10_p2_den K (fun s w => B1 [s 3, s 14, s 15, s 16] w))) (X := (fun i => (bif Nat.beq i 1 then (fun s w => s10_p2 K B1 (s 3) (s 14) (s 15) (s 16) w) else (bif Nat.beq i 0 then (fun s w => s10_p1 K w) else (fun _ _ => False))))) (X' := (fun i => (bif Nat.beq i 1 then (s10_p2_den K (fun s w => B1 [s 3, s 14, s 15, s 16] w)) else (bif Nat.beq i 0 then (s10_p1_den K) else (fun _ _ => False))))) (R := s10_R K) (s := s) (w := w) (p := s10_p3 K B1 (s 3) (s 14) (s 15) (s 16) (s 53) w) (q := s10_p3_den K (fun s w => B1 [s 3, s 14, s 15, s 16] w) s w) (fun s w h => s10_p2_ok K B1 s w @h) (fun i => (tr_bif (fun s w h => s10_p2_ok K B1 s w @h) (tr_bif (fun s w h => s10_p1_ok K s w @h) tr_id))) (by kernel_rfl) (by kernel_rfl) @h
def s10_p4_d (K : Value → World → Prop) (B1 : List Value → World → Prop) (t3 t6 t7 t9 t14 t15 t16 : Value) (w0 w : World) : Prop :=
  boI .neq t7 (.int .i64 0) (fun t42 _ =>
  gd t42 false (fun K w => K t9 w) (fun t44 _ =>
  gd t42 false (un .not t44) (fun t45 _ =>
  pk t42 (.bool true) t45 (fun t46 _ =>
  gd t46 true (ldn 4 t6) (fun t48 _ =>
  gd t46 true (fun K w => K t3 w) (fun t49 _ =>
  gd t46 true (cl Try.prog 20 #[t49]) (fun t50 w =>
  Below w0.heap.size w0 w ∧
  gd t46 true (cl Try.prog 19 #[t48, t50]) (fun t51 w =>
  gd t46 true (un .not t51) (fun t52 w =>
  pk t46 t52 (.bool false) (fun t53 w =>
  s10_p3 K B1 t3 t14 t15 t16 t53 w) w) w) w) w) w0) w0) w0) w0) w0) w0
def s10_p4 (K : Value → World → Prop) (B1 : List Value → World → Prop) (t3 t6 t7 t9 t14 t15 t16 : Value) (w : World) : Prop := s10_p4_d K B1 t3 t6 t7 t9 t14 t15 t16 (drw w) (drw w)
def s10_p4_den (K : Value → World → Prop) (M1 : (Nat → Value) → World → Prop) : (Nat → Value) → World → Prop := denL Try.prog [(cd (Try.f10.body.getD .skip) [1, 1, 1, 0, 1, 0, 0, 1, 1, 0, 0, 1, 1, 1, 1, 0])] (s10_p3_den K M1) (fun i => (bif Nat.beq i 1 then (s10_p2_den K M1) else (bif Nat.beq i 0 then (s10_p1_den K) else (fun _ _ => False)))) (s10_R K)
theorem s10_p4_ok (K : Value → World → Prop) (B1 : List Value → World → Prop) (s : Nat → Value) (w : World) (h : s10_p4 K B1 (s 3) (s 6) (s 7) (s 9) (s 14) (s 15) (s 16) w) : Tr (s10_p4_den K (fun s w => B1 [s 3, s 14, s 15, s 16] w) s w) :=
  tr_draw (P := Try.prog) (ops := (ro (cd (Try.f10.body.getD .skip) [1, 1, 1, 0, 1, 0, 0, 1, 1, 0, 0, 1, 1, 1, 1, 0]))) (ms := [0, 1, 3, 7, 15, 31, 63, 127, 127, 383, 1023, 2047, 4095]) (cs := [0, 1, 2, 3, 4, 5, 6, 7, 8]) (N := (fun s w => s10_p3 K B1 (s 3) (s 14) (s 15) (s 16) (s 53) w)) (N' := (s10_p3_den K (fun s w => B1 [s 3, s 14, s 15, s 16] w))) (s := s) (w := w) (p := s10_p4 K B1 (s 3) (s 6) (s 7) (s 9) (s 14) (s 15) (s 16) w) (q := s10_p4_den K (fun s w => B1 [s 3, s 14, s 15, s 16] w) s w) (by kernel_rfl) (by kernel_rfl) (fun s w h => s10_p3_ok K B1 s w @h) (by kernel_rfl) (by kernel_rfl) @h
def s10_p5 (K : Value → World → Prop) (B1 : List Value → World → Prop) (t3 t14 t15 t16 : Value) (w : World) : Prop :=
  ixs 6 t14 t16 (fun t18 w =>
  ldn 6 t18 (fun t19 w =>
  nw 34 #[(.int .i64 0), (.int .i64 0), (.int .i64 0), (.int .i64 0), (.int .i64 0), (.int .i64 0)] (fun t5 w =>
  stn 6 t5 t19 (fun w =>
  cl Try.prog 20 #[t3] (fun t21 w =>
  nw 43 #[(.bool false), (.int .i64 0), (.slice none 0 0), (.slice none 0 0)] (fun t6 w =>
  stn 4 t6 t21 (fun w =>
  ldn 6 t5 (fun t24 w =>
  cl Try.prog 17 #[t3, t24] (fun t25 w =>
  exq t25 0 (fun t26 w =>
  exq t25 1 (fun t27 w =>
  fd 0 t5 (fun t28 w =>
  ld1 t28 (fun t29 w =>
  boI .eql t29 (.int .i64 0) (fun t30 w =>
  gd t30 false (fd 0 t5) (fun t32 w =>
  gd t30 false (ld1 t32) (fun t33 w =>
  gd t30 false (boI .eql t33 (.int .i64 1)) (fun t34 w =>
  pk t30 (.bool true) t34 (fun t35 w =>
  gd t35 false (fd 0 t5) (fun t37 w =>
  gd t35 false (ld1 t37) (fun t38 w =>
  gd t35 false (boI .eql t38 (.int .i64 2)) (fun t39 w =>
  pk t35 (.bool true) t39 (fun t40 w =>
  s10_p4 K B1 t3 t6 t26 t40 t14 t15 t16 w) w) w) w) w) w) w) w) w) w) w) w) w) w) w) w) w) w) w) w) w) w) w
def s10_p5_den (K : Value → World → Prop) (M1 : (Nat → Value) → World → Prop) : (Nat → Value) → World → Prop := denL Try.prog [(cd (Try.f10.body.getD .skip) [1, 1, 1, 0, 1, 0, 0, 1, 1, 0, 0, 0]), (cd (Try.f10.body.getD .skip) [1, 1, 1, 0, 1, 0, 0, 1, 1, 0, 0, 1, 0]), (cd (Try.f10.body.getD .skip) [1, 1, 1, 0, 1, 0, 0, 1, 1, 0, 0, 1, 1, 0]), (cd (Try.f10.body.getD .skip) [1, 1, 1, 0, 1, 0, 0, 1, 1, 0, 0, 1, 1, 1, 0])] (s10_p4_den K M1) (fun i => (bif Nat.beq i 1 then (s10_p2_den K M1) else (bif Nat.beq i 0 then (s10_p1_den K) else (fun _ _ => False)))) (s10_R K)
theorem s10_p5_ok (K : Value → World → Prop) (B1 : List Value → World → Prop) (s : Nat → Value) (w : World) (h : s10_p5 K B1 (s 3) (s 14) (s 15) (s 16) w) : Tr (s10_p5_den K (fun s w => B1 [s 3, s 14, s 15, s 16] w) s w) :=
  tr_simple (P := Try.prog) (codes := [(cd (Try.f10.body.getD .skip) [1, 1, 1, 0, 1, 0, 0, 1, 1, 0, 0, 0]), (cd (Try.f10.body.getD .skip) [1, 1, 1, 0, 1, 0, 0, 1, 1, 0, 0, 1, 0]), (cd (Try.f10.body.getD .skip) [1, 1, 1, 0, 1, 0, 0, 1, 1, 0, 0, 1, 1, 0]), (cd (Try.f10.body.getD .skip) [1, 1, 1, 0, 1, 0, 0, 1, 1, 0, 0, 1, 1, 1, 0])]) (N := (fun s w => s10_p4 K B1 (s 3) (s 6) (s 7) (s 9) (s 14) (s 15) (s 16) w)) (N' := (s10_p4_den K (fun s w => B1 [s 3, s 14, s 15, s 16] w))) (X := (fun i => (bif Nat.beq i 1 then (fun s w => s10_p2 K B1 (s 3) (s 14) (s 15) (s 16) w) else (bif Nat.beq i 0 then (fun s w => s10_p1 K w) else (fun _ _ => False))))) (X' := (fun i => (bif Nat.beq i 1 then (s10_p2_den K (fun s w => B1 [s 3, s 14, s 15, s 16] w)) else (bif Nat.beq i 0 then (s10_p1_den K) else (fun _ _ => False))))) (R := s10_R K) (s := s) (w := w) (p := s10_p5 K B1 (s 3) (s 14) (s 15) (s 16) w) (q := s10_p5_den K (fun s w => B1 [s 3, s 14, s 15, s 16] w) s w) (fun s w h => s10_p4_ok K B1 s w @h) (fun i => (tr_bif (fun s w h => s10_p2_ok K B1 s w @h) (tr_bif (fun s w h => s10_p1_ok K s w @h) tr_id))) (by kernel_rfl) (by kernel_rfl) @h
def s10_p6 (K : Value → World → Prop) (B1 : List Value → World → Prop) (t3 t14 t15 t16 : Value) (w : World) : Prop :=
  boI .lss t16 t15 (fun t17 w =>
  ifb t17
  (s10_p5 K B1 t3 t14 t15 t16 w)
  (s10_p1 K w)) w
def s10_p6_den (K : Value → World → Prop) (M1 : (Nat → Value) → World → Prop) : (Nat → Value) → World → Prop := denL Try.prog [(cd (Try.f10.body.getD .skip) [1, 1, 1, 0, 1, 0, 0, 0]), (cd (Try.f10.body.getD .skip) [1, 1, 1, 0, 1, 0, 0, 1, 0])] (s10_p5_den K M1) (fun i => (bif Nat.beq i 0 then (s10_p1_den K) else (fun _ _ => False))) (s10_R K)
theorem s10_p6_ok (K : Value → World → Prop) (B1 : List Value → World → Prop) (s : Nat → Value) (w : World) (h : s10_p6 K B1 (s 3) (s 14) (s 15) (s 16) w) : Tr (s10_p6_den K (fun s w => B1 [s 3, s 14, s 15, s 16] w) s w) :=
  tr_simple (P := Try.prog) (codes := [(cd (Try.f10.body.getD .skip) [1, 1, 1, 0, 1, 0, 0, 0]), (cd (Try.f10.body.getD .skip) [1, 1, 1, 0, 1, 0, 0, 1, 0])]) (N := (fun s w => s10_p5 K B1 (s 3) (s 14) (s 15) (s 16) w)) (N' := (s10_p5_den K (fun s w => B1 [s 3, s 14, s 15, s 16] w))) (X := (fun i => (bif Nat.beq i 0 then (fun s w => s10_p1 K w) else (fun _ _ => False)))) (X' := (fun i => (bif Nat.beq i 0 then (s10_p1_den K) else (fun _ _ => False)))) (R := s10_R K) (s := s) (w := w) (p := s10_p6 K B1 (s 3) (s 14) (s 15) (s 16) w) (q := s10_p6_den K (fun s w => B1 [s 3, s 14, s 15, s 16] w) s w) (fun s w h => s10_p5_ok K B1 s w @h) (fun i => (tr_bif (fun s w h => s10_p1_ok K s w @h) tr_id)) (by kernel_rfl) (by kernel_rfl) @h
def s10_p7_F (K : Value → World → Prop) (B1 : List Value → World → Prop) (l : List Value) (w : World) : Prop :=
  match l with
  | [t3, t14, t15, t16] => s10_p6 K B1 t3 t14 t15 t16 w
  | _ => False
theorem s10_p7_Fe {K : Value → World → Prop} {B1 : List Value → World → Prop} {t3 t14 t15 t16 : Value} {w : World} : s10_p7_F K B1 [t3, t14, t15, t16] w = s10_p6 K B1 t3 t14 t15 t16 w := by kernel_rfl
def s10_p7 (K : Value → World → Prop) (t3 t14 t15 t16 : Value) (w : World) : Prop :=
  LoopL (s10_p7_F K) [t3, t14, t15, t16] w
def s10_p7_den (K : Value → World → Prop) : (Nat → Value) → World → Prop := fun s w => LoopP (fun M1 s w => s10_p6_den K M1 s w) s w
theorem s10_p7_ok (K : Value → World → Prop) (s : Nat → Value) (w : World) (h : s10_p7 K (s 3) (s 14) (s 15) (s 16) w) : Tr (s10_p7_den K s w) :=
  tr_loop (G := fun N' s w => s10_p6_den K N' s w) (F := s10_p7_F K) (sel := fun s => [s 3, s 14, s 15, s 16]) (s := s) (w := w) (p := s10_p7 K (s 3) (s 14) (s 15) (s 16) w) (q := s10_p7_den K s w) (fun B s w h => s10_p6_ok K B s w @h) (by kernel_rfl) (by kernel_rfl) @h
def s10_p8 (K : Value → World → Prop) (t0 : Value) (w : World) : Prop :=
  cl Try.prog 13 #[t0] (fun t11 w =>
  un .not t11 (fun t12 w =>
  ifb t12
  (K (.bool true) w)
  (cl Try.prog 14 #[] (fun t13 w =>
  lnS t0 (fun t15 w =>
  s10_p7 K t13 t0 t15 (.int .i64 0) w) w) w)) w) w
def s10_p8_den (K : Value → World → Prop) : (Nat → Value) → World → Prop := denL Try.prog [(cd (Try.f10.body.getD .skip) [0]), (cd (Try.f10.body.getD .skip) [1, 0, 0]), (cd (Try.f10.body.getD .skip) [1, 0, 1]), (cd (Try.f10.body.getD .skip) [1, 1, 0]), (cd (Try.f10.body.getD .skip) [1, 1, 1, 0, 0])] (s10_p7_den K) (fun i => (fun _ _ => False)) (s10_R K)
theorem s10_p8_ok (K : Value → World → Prop) (s : Nat → Value) (w : World) (h : s10_p8 K (s 0) w) : Tr (s10_p8_den K s w) :=
  tr_simple (P := Try.prog) (codes := [(cd (Try.f10.body.getD .skip) [0]), (cd (Try.f10.body.getD .skip) [1, 0, 0]), (cd (Try.f10.body.getD .skip) [1, 0, 1]), (cd (Try.f10.body.getD .skip) [1, 1, 0]), (cd (Try.f10.body.getD .skip) [1, 1, 1, 0, 0])]) (N := (fun s w => s10_p7 K (s 3) (s 14) (s 15) (s 16) w)) (N' := (s10_p7_den K)) (X := (fun i => (fun _ _ => False))) (X' := (fun i => (fun _ _ => False))) (R := s10_R K) (s := s) (w := w) (p := s10_p8 K (s 0) w) (q := s10_p8_den K s w) (fun s w h => s10_p7_ok K s w @h) (fun i => tr_id) (by kernel_rfl) (by kernel_rfl) @h
/-- the call, from the text -/
theorem c10 (t0 : Value) {K : Value → World → Prop} {w : World} (h : s10_p8 K t0 w) : cl Try.prog 10 #[t0] K w :=
  calls_of_tr (c := (Try.f10.body.getD .skip)) (fn := Try.f10) (q := s10_p8_den K (st0 #[t0]) w) Try.func10 (by kernel_rfl) (by kernel_rfl) (Nat.le_of_ble_eq_true (by kernel_rfl)) (by kernel_rfl) (by kernel_rfl) (s10_p8_ok K (st0 #[t0]) w @h)

/-! ### function 11 : e2e.slotslaw.FirstFitIsEarliestFit -/
def s11_R (K : Value → World → Prop) (s : Nat → Value) (w : World) : Prop := retv Try.prog s Try.f11.results.toList (fun vs => K (pack vs) w) w
def s11_p1 (K : Value → World → Prop) (w : World) : Prop :=
  K (.bool true) w
def s11_p1_den (K : Value → World → Prop) : (Nat → Value) → World → Prop := denL Try.prog [(cd (Try.f11.body.getD .skip) [1, 1, 1, 1, 0]), (cd (Try.f11.body.getD .skip) [1, 1, 1, 1, 1])] (fun _ _ => False) (fun i => (fun _ _ => False)) (s11_R K)
theorem s11_p1_ok (K : Value → World → Prop) (s : Nat → Value) (w : World) (h : s11_p1 K w) : Tr (s11_p1_den K s w) :=
  tr_simple (P := Try.prog) (codes := [(cd (Try.f11.body.getD .skip) [1, 1, 1, 1, 0]), (cd (Try.f11.body.getD .skip) [1, 1, 1, 1, 1])]) (N := (fun _ _ => False)) (N' := (fun _ _ => False)) (X := (fun i => (fun _ _ => False))) (X' := (fun i => (fun _ _ => False))) (R := s11_R K) (s := s) (w := w) (p := s11_p1 K w) (q := s11_p1_den K s w) tr_id (fun i => tr_id) (by kernel_rfl) (by kernel_rfl) @h
def s11_p2 (K : Value → World → Prop) (B1 : List Value → World → Prop) (t3 t17 t18 t19 : Value) (w : World) : Prop :=
  boI .add t19 (.int .i64 1) (fun t119 w =>
  B1 [t3, t17, t18, t119] w) w
def s11_p2_den (K : Value → World → Prop) (M1 : (Nat → Value) → World → Prop) : (Nat → Value) → World → Prop := denL Try.prog [(cd (Try.f11.body.getD .skip) [1, 1, 1, 0, 1, 0, 0, 1, 1, 1])] M1 (fun i => (bif Nat.beq i 0 then (s11_p1_den K) else (fun _ _ => False))) (s11_R K)
theorem s11_p2_ok (K : Value → World → Prop) (B1 : List Value → World → Prop) (s : Nat → Value) (w : World) (h : s11_p2 K B1 (s 3) (s 17) (s 18) (s 19) w) : Tr (s11_p2_den K (fun s w => B1 [s 3, s 17, s 18, s 19] w) s w) :=
  tr_simple (P := Try.prog) (codes := [(cd (Try.f11.body.getD .skip) [1, 1, 1, 0, 1, 0, 0, 1, 1, 1])]) (N := (fun s w => B1 [s 3, s 17, s 18, s 19] w)) (N' := (fun s w => B1 [s 3, s 17, s 18, s 19] w)) (X := (fun i => (bif Nat.beq i 0 then (fun s w => s11_p1 K w) else (fun _ _ => False)))) (X' := (fun i => (bif Nat.beq i 0 then (s11_p1_den K) else (fun _ _ => False)))) (R := s11_R K) (s := s) (w := w) (p := s11_p2 K B1 (s 3) (s 17) (s 18) (s 19) w) (q := s11_p2_den K (fun s w => B1 [s 3, s 17, s 18, s 19] w) s w) tr_id (fun i => (tr_bif (fun s w h => s11_p1_ok K s w @h) tr_id)) (by kernel_rfl) (by kernel_rfl) @h
def s11_p3 (K : Value → World → Prop) (B1 : List Value → World → Prop) (t3 t6 t7 t10 t11 t17 t18 t19 : Value) (w : World) : Prop :=
  boI .eql t6 (.int .i64 0) (fun t79 w =>
  boB .neq t11 t79 (fun t80 w =>
  gd t80 false (fun K w => K t7 w) (fun t82 w =>
  gd t80 false (fun K w => K t10 w) (fun t83 w =>
  gd t80 false (boI .neq t82 t83) (fun t84 w =>
  pk t80 (.bool true) t84 (fun t85 w =>
  ifb t85
  (K (.bool false) w)
  (s11_p2 K B1 t3 t17 t18 t19 w)) w) w) w) w) w) w
def s11_p3_den (K : Value → World → Prop) (M1 : (Nat → Value) → World → Prop) : (Nat → Value) → World → Prop := denL Try.prog [(cd (Try.f11.body.getD .skip) [1, 1, 1, 0, 1, 0, 0, 1, 1, 0, 0, 1, 1, 1, 1, 0, 1, 0, 1, 1, 1, 0]), (cd (Try.f11.body.getD .skip) [1, 1, 1, 0, 1, 0, 0, 1, 1, 0, 0, 1, 1, 1, 1, 0, 1, 0, 1, 1, 1, 1])] (s11_p2_den K M1) (fun i => (bif Nat.beq i 2 then (s11_p2_den K M1) else (bif Nat.beq i 1 then (s11_p2_den K M1) else (bif Nat.beq i 0 then (s11_p1_den K) else (fun _ _ => False))))) (s11_R K)
theorem s11_p3_ok (K : Value → World → Prop) (B1 : List Value → World → Prop) (s : Nat → Value) (w : World) (h : s11_p3 K B1 (s 3) (s 6) (s 7) (s 10) (s 11) (s 17) (s 18) (s 19) w) : Tr (s11_p3_den K (fun s w => B1 [s 3, s 17, s 18, s 19] w) s w) :=
  tr_simple (P := Try.prog) (codes := [(cd (Try.f11.body.getD .skip) [1, 1, 1, 0, 1, 0, 0, 1, 1, 0, 0, 1, 1, 1, 1, 0, 1, 0, 1, 1, 1, 0]), (cd (Try.f11.body.getD .skip) [1, 1, 1, 0, 1, 0, 0, 1, 1, 0, 0, 1, 1, 1, 1, 0, 1, 0, 1, 1, 1, 1])]) (N := (fun s w => s11_p2 K B1 (s 3) (s 17) (s 18) (s 19) w)) (N' := (s11_p2_den K (fun s w => B1 [s 3, s 17, s 18, s 19] w))) (X := (fun i => (bif Nat.beq i 2 then (fun s w => s11_p2 K B1 (s 3) (s 17) (s 18) (s 19) w) else (bif Nat.beq i 1 then (fun s w => s11_p2 K B1 (s 3) (s 17) (s 18) (s 19) w) else (bif Nat.beq i 0 then (fun s w => s11_p1 K w) else (fun _ _ => False)))))) (X' := (fun i => (bif Nat.beq i 2 then (s11_p2_den K (fun s w => B1 [s 3, s 17, s 18, s 19] w)) else (bif Nat.beq i 1 then (s11_p2_den K (fun s w => B1 [s 3, s 17, s 18, s 19] w)) else (bif Nat.beq i 0 then (s11_p1_den K) else (fun _ _ => False)))))) (R := s11_R K) (s := s) (w := w) (p := s11_p3 K B1 (s 3) (s 6) (s 7) (s 10) (s 11) (s 17) (s 18) (s 19) w) (q := s11_p3_den K (fun s w => B1 [s 3, s 17, s 18, s 19] w) s w) (fun s w h => s11_p2_ok K B1 s w @h) (fun i => (tr_bif (fun s w h => s11_p2_ok K B1 s w @h) (tr_bif (fun s w h => s11_p2_ok K B1 s w @h) (tr_bif (fun s w h => s11_p1_ok K s w @h) tr_id)))) (by kernel_rfl) (by kernel_rfl) @h
def s11_p4 (K : Value → World → Prop) (B1 : List Value → World → Prop) (B2 : List Value → World → Prop) (t3 t5 t6 t7 t9 t10 t11 t12 t17 t18 t19 : Value) (w : World) : Prop :=
  boI .add t12 (.int .i64 1) (fun t53 w =>
  B2 [t3, t5, t6, t7, t9, t10, t11, t53, t17, t18, t19] w) w
def s11_p4_den (K : Value → World → Prop) (M1 : (Nat → Value) → World → Prop) (M2 : (Nat → Value) → World → Prop) : (Nat → Value) → World → Prop := denL Try.prog [(cd (Try.f11.body.getD .skip) [1, 1, 1, 0, 1, 0, 0, 1, 1, 0, 0, 1, 1, 1, 1, 0, 1, 0, 1, 1, 0, 1, 0, 0, 1, 1])] M2 (fun i => (bif Nat.beq i 3 then (s11_p3_den K M1) else (bif Nat.beq i 2 then (s11_p2_den K M1) else (bif Nat.beq i 1 then (s11_p2_den K M1) else (bif Nat.beq i 0 then (s11_p1_den K) else (fun _ _ => False)))))) (s11_R K)
theorem s11_p4_ok (K : Value → World → Prop) (B1 : List Value → World → Prop) (B2 : List Value → World → Prop) (s : Nat → Value) (w : World) (h : s11_p4 K B1 B2 (s 3) (s 5) (s 6) (s 7) (s 9) (s 10) (s 11) (s 12) (s 17) (s 18) (s 19) w) : Tr (s11_p4_den K (fun s w => B1 [s 3, s 17, s 18, s 19] w) (fun s w => B2 [s 3, s 5, s 6, s 7, s 9, s 10, s 11, s 12, s 17, s 18, s 19] w) s w) :=
  tr_simple (P := Try.prog) (codes := [(cd (Try.f11.body.getD .skip) [1, 1, 1, 0, 1, 0, 0, 1, 1, 0, 0, 1, 1, 1, 1, 0, 1, 0, 1, 1, 0, 1, 0, 0, 1, 1])]) (N := (fun s w => B2 [s 3, s 5, s 6, s 7, s 9, s 10, s 11, s 12, s 17, s 18, s 19] w)) (N' := (fun s w => B2 [s 3, s 5, s 6, s 7, s 9, s 10, s 11, s 12, s 17, s 18, s 19] w)) (X := (fun i => (bif Nat.beq i 3 then (fun s w => s11_p3 K B1 (s 3) (s 6) (s 7) (s 10) (s 11) (s 17) (s 18) (s 19) w) else (bif Nat.beq i 2 then (fun s w => s11_p2 K B1 (s 3) (s 17) (s 18) (s 19) w) else (bif Nat.beq i 1 then (fun s w => s11_p2 K B1 (s 3) (s 17) (s 18) (s 19) w) else (bif Nat.beq i 0 then (fun s w => s11_p1 K w) else (fun _ _ => False))))))) (X' := (fun i => (bif Nat.beq i 3 then (s11_p3_den K (fun s w => B1 [s 3, s 17, s 18, s 19] w)) else (bif Nat.beq i 2 then (s11_p2_den K (fun s w => B1 [s 3, s 17, s 18, s 19] w)) else (bif Nat.beq i 1 then (s11_p2_den K (fun s w => B1 [s 3, s 17, s 18, s 19] w)) else (bif Nat.beq i 0 then (s11_p1_den K) else (fun _ _ => False))))))) (R := s11_R K) (s := s) (w := w) (p := s11_p4 K B1 B2 (s 3) (s 5) (s 6) (s 7) (s 9) (s 10) (s 11) (s 12) (s 17) (s 18) (s 19) w) (q := s11_p4_den K (fun s w => B1 [s 3, s 17, s 18, s 19] w) (fun s w => B2 [s 3, s 5, s 6, s 7, s 9, s 10, s 11, s 12, s 17, s 18, s 19] w) s w) tr_id (fun i => (tr_bif (fun s w h => s11_p3_ok K B1 s w @h) (tr_bif (fun s w h => s11_p2_ok K B1 s w @h) (tr_bif (fun s w h => s11_p2_ok K B1 s w @h) (tr_bif (fun s w h => s11_p1_ok K s w @h) tr_id))))) (by kernel_rfl) (by kernel_rfl) @h
def s11_p5 (K : Value → World → Prop) (B1 : List Value → World → Prop) (B2 : List Value → World → Prop) (t3 t5 t6 t7 t9 t10 t11 t12 t17 t18 t19 : Value) (w : World) : Prop :=
  boI .leq t12 t9 (fun t47 w =>
  gd t47 true (fun K w => K t11 w) (fun t49 w =>
  gd t47 true (un .not t49) (fun t50 w =>
  pk t47 t50 (.bool false) (fun t51 w =>
  ifb t51
  (fd 2 t5 (fun t54 w =>
  ld1 t54 (fun t55 w =>
  boI .leq t55 t12 (fun t57 w =>
  gd t57 true (fun K w => K t12 w) (fun t59 w =>
  gd t57 true (fd 3 t5) (fun t60 w =>
  gd t57 true (ld1 t60) (fun t61 w =>
  gd t57 true (boI .leq t59 t61) (fun t62 w =>
  pk t57 t62 (.bool false) (fun t63 w =>
  gd t63 true (fun K w => K t3 w) (fun t65 w =>
  gd t63 true (fd 1 t5) (fun t66 w =>
  gd t63 true (ld1 t66) (fun t67 w =>
  gd t63 true (fun K w => K t12 w) (fun t68 w =>
  gd t63 true (fd 4 t5) (fun t69 w =>
  gd t63 true (ld1 t69) (fun t70 w =>
  gd t63 true (fd 5 t5) (fun t71 w =>
  gd t63 true (ld1 t71) (fun t72 w =>
  gd t63 true (cl Try.prog 33 #[t65, t67, t68, t70, t72]) (fun t73 w =>
  gd t63 true (boF true .eql t73 .nilIface) (fun t74 w =>
  pk t63 t74 (.bool false) (fun t75 w =>
  ifb t75
  (s11_p4 K B1 B2 t3 t5 t6 t7 t9 t12 (.bool true) t12 t17 t18 t19 w)
  (s11_p4 K B1 B2 t3 t5 t6 t7 t9 t10 t11 t12 t17 t18 t19 w)) w) w) w) w) w) w) w) w) w) w) w) w) w) w) w) w) w) w) w)
  (s11_p3 K B1 t3 t6 t7 t10 t11 t17 t18 t19 w)) w) w) w) w
def s11_p5_den (K : Value → World → Prop) (M1 : (Nat → Value) → World → Prop) (M2 : (Nat → Value) → World → Prop) : (Nat → Value) → World → Prop := denL Try.prog [(cd (Try.f11.body.getD .skip) [1, 1, 1, 0, 1, 0, 0, 1, 1, 0, 0, 1, 1, 1, 1, 0, 1, 0, 1, 1, 0, 1, 0, 0, 0, 0]), (cd (Try.f11.body.getD .skip) [1, 1, 1, 0, 1, 0, 0, 1, 1, 0, 0, 1, 1, 1, 1, 0, 1, 0, 1, 1, 0, 1, 0, 0, 0, 1]), (cd (Try.f11.body.getD .skip) [1, 1, 1, 0, 1, 0, 0, 1, 1, 0, 0, 1, 1, 1, 1, 0, 1, 0, 1, 1, 0, 1, 0, 0, 1, 0])] (s11_p4_den K M1 M2) (fun i => (bif Nat.beq i 3 then (s11_p3_den K M1) else (bif Nat.beq i 2 then (s11_p2_den K M1) else (bif Nat.beq i 1 then (s11_p2_den K M1) else (bif Nat.beq i 0 then (s11_p1_den K) else (fun _ _ => False)))))) (s11_R K)
theorem s11_p5_ok (K : Value → World → Prop) (B1 : List Value → World → Prop) (B2 : List Value → World → Prop) (s : Nat → Value) (w : World) (h : s11_p5 K B1 B2 (s 3) (s 5) (s 6) (s 7) (s 9) (s 10) (s 11) (s 12) (s 17) (s 18) (s 19) w) : Tr (s11_p5_den K (fun s w => B1 [s 3, s 17, s 18, s 19] w) (fun s w => B2 [s 3, s 5, s 6, s 7, s 9, s 10, s 11, s 12, s 17, s 18, s 19] w) s w) :=
  tr_simple (P := Try.prog) (codes := [(cd (Try.f11.body.getD .skip) [1, 1, 1, 0, 1, 0, 0, 1, 1, 0, 0, 1, 1, 1, 1, 0, 1, 0, 1, 1, 0, 1, 0, 0, 0, 0]), (cd (Try.f11.body.getD .skip) [1, 1, 1, 0, 1, 0, 0, 1, 1, 0, 0, 1, 1, 1, 1, 0, 1, 0, 1, 1, 0, 1, 0, 0, 0, 1]), (cd (Try.f11.body.getD .skip) [1, 1, 1, 0, 1, 0, 0, 1, 1, 0, 0, 1, 1, 1, 1, 0, 1, 0, 1, 1, 0, 1, 0, 0, 1, 0])]) (N := (fun s w => s11_p4 K B1 B2 (s 3) (s 5) (s 6) (s 7) (s 9) (s 10) (s 11) (s 12) (s 17) (s 18) (s 19) w)) (N' := (s11_p4_den K (fun s w => B1 [s 3, s 17, s 18, s 19] w) (fun s w => B2 [s 3, s 5, s 6, s 7, s 9, s 10, s 11, s 12, s 17, s 18, s 19] w))) (X := (fun i => (bif Nat.beq i 3 then (fun s w => s11_p3 K B1 (s 3) (s 6) (s 7) (s 10) (s 11) (s 17) (s 18) (s 19) w) else (bif Nat.beq i 2 then (fun s w => s11_p2 K B1 (s 3) (s 17) (s 18) (s 19) w) else (bif Nat.beq i 1 then (fun s w => s11_p2 K B1 (s 3) (s 17) (s 18) (s 19) w) else (bif Nat.beq i 0 then (fun s w => s11_p1 K w) else (fun _ _ => False))))))) (X' := (fun i => (bif Nat.beq i 3 then (s11_p3_den K (fun s w => B1 [s 3, s 17, s 18, s 19] w)) else (bif Nat.beq i 2 then (s11_p2_den K (fun s w => B1 [s 3, s 17, s 18, s 19] w)) else (bif Nat.beq i 1 then (s11_p2_den K (fun s w => B1 [s 3, s 17, s 18, s 19] w)) else (bif Nat.beq i 0 then (s11_p1_den K) else (fun _ _ => False))))))) (R := s11_R K) (s := s) (w := w) (p := s11_p5 K B1 B2 (s 3) (s 5) (s 6) (s 7) (s 9) (s 10) (s 11) (s 12) (s 17) (s 18) (s 19) w) (q := s11_p5_den K (fun s w => B1 [s 3, s 17, s 18, s 19] w) (fun s w => B2 [s 3, s 5, s 6, s 7, s 9, s 10, s 11, s 12, s 17, s 18, s 19] w) s w) (fun s w h => s11_p4_ok K B1 B2 s w @h) (fun i => (tr_bif (fun s w h => s11_p3_ok K B1 s w @h) (tr_bif (fun s w h => s11_p2_ok K B1 s w @h) (tr_bif (fun s w h => s11_p2_ok K B1 s w @h) (tr_bif (fun s w h => s11_p1_ok K s w @h) tr_id))))) (by kernel_rfl) (by kernel_rfl) @h
def s11_p6_F (K : Value → World → Prop) (B1 : List Value → World → Prop) (B2 : List Value → World → Prop) (l : List Value) (w : World) : Prop :=
  match l with
  | [t3, t5, t6, t7, t9, t10, t11, t12, t17, t18, t19] => s11_p5 K B1 B2 t3 t5 t6 t7 t9 t10 t11 t12 t17 t18 t19 w
  | _ => False
theorem s11_p6_Fe {K : Value → World → Prop} {B1 : List Value → World → Prop} {B2 : List Value → World → Prop} {t3 t5 t6 t7 t9 t10 t11 t12 t17 t18 t19 : Value} {w : World} : s11_p6_F K B1 B2 [t3, t5, t6, t7, t9, t10, t11, t12, t17, t18, t19] w = s11_p5 K B1 B2 t3 t5 t6 t7 t9 t10 t11 t12 t17 t18 t19 w := by kernel_rfl
def s11_p6 (K : Value → World → Prop) (B1 : List Value → World → Prop) (t3 t5 t6 t7 t9 t10 t11 t12 t17 t18 t19 : Value) (w : World) : Prop :=
  LoopL (s11_p6_F K B1) [t3, t5, t6, t7, t9, t10, t11, t12, t17, t18, t19] w
def s11_p6_den (K : Value → World → Prop) (M1 : (Nat → Value) → World → Prop) : (Nat → Value) → World → Prop := fun s w => LoopP (fun M2 s w => s11_p5_den K M1 M2 s w) s w
theorem s11_p6_ok (K : Value → World → Prop) (B1 : List Value → World → Prop) (s : Nat → Value) (w : World) (h : s11_p6 K B1 (s 3) (s 5) (s 6) (s 7) (s 9) (s 10) (s 11) (s 12) (s 17) (s 18) (s 19) w) : Tr (s11_p6_den K (fun s w => B1 [s 3, s 17, s 18, s 19] w) s w) :=
  tr_loop (G := fun N' s w => s11_p5_den K (fun s w => B1 [s 3, s 17, s 18, s 19] w) N' s w) (F := s11_p6_F K B1) (sel := fun s => [s 3, s 5, s 6, s 7, s 9, s 10, s 11, s 12, s 17, s 18, s 19]) (s := s) (w := w) (p := s11_p6 K B1 (s 3) (s 5) (s 6) (s 7) (s 9) (s 10) (s 11) (s 12) (s 17) (s 18) (s 19) w) (q := s11_p6_den K (fun s w => B1 [s 3, s 17, s 18, s 19] w) s w) (fun B s w h => s11_p5_ok K B1 B s w @h) (by kernel_rfl) (by kernel_rfl) @h
def s11_p7 (K : Value → World → Prop) (B1 : List Value → World → Prop) (t3 t5 t6 t7 t8 t9 t17 t18 t19 : Value) (w : World) : Prop :=
  boI .neq t6 (.int .i64 0) (fun t39 w =>
  gd t39 true (fun K w => K t6 w) (fun t41 w =>
  gd t39 true (boI .neq t41 (.int .i64 10)) (fun t42 w =>
  pk t39 t42 (.bool false) (fun t43 w =>
  ifb t43
  (s11_p2 K B1 t3 t17 t18 t19 w)
  (s11_p6 K B1 t3 t5 t6 t7 t9 (.int .i64 0) (.bool false) t8 t17 t18 t19 w)) w) w) w) w
def s11_p7_den (K : Value → World → Prop) (M1 : (Nat → Value) → World → Prop) : (Nat → Value) → World → Prop := denL Try.prog [(cd (Try.f11.body.getD .skip) [1, 1, 1, 0, 1, 0, 0, 1, 1, 0, 0, 1, 1, 1, 1, 0, 1, 0, 0, 0]), (cd (Try.f11.body.getD .skip) [1, 1, 1, 0, 1, 0, 0, 1, 1, 0, 0, 1, 1, 1, 1, 0, 1, 0, 0, 1]), (cd (Try.f11.body.getD .skip) [1, 1, 1, 0, 1, 0, 0, 1, 1, 0, 0, 1, 1, 1, 1, 0, 1, 0, 1, 0]), (cd (Try.f11.body.getD .skip) [1, 1, 1, 0, 1, 0, 0, 1, 1, 0, 0, 1, 1, 1, 1, 0, 1, 0, 1, 1, 0, 0])] (s11_p6_den K M1) (fun i => (bif Nat.beq i 2 then (s11_p2_den K M1) else (bif Nat.beq i 1 then (s11_p2_den K M1) else (bif Nat.beq i 0 then (s11_p1_den K) else (fun _ _ => False))))) (s11_R K)
theorem s11_p7_ok (K : Value → World → Prop) (B1 : List Value → World → Prop) (s : Nat → Value) (w : World) (h : s11_p7 K B1 (s 3) (s 5) (s 6) (s 7) (s 8) (s 9) (s 17) (s 18) (s 19) w) : Tr (s11_p7_den K (fun s w => B1 [s 3, s 17, s 18, s 19] w) s w) :=
  tr_simple (P := Try.prog) (codes := [(cd (Try.f11.body.getD .skip) [1, 1, 1, 0, 1, 0, 0, 1, 1, 0, 0, 1, 1, 1, 1, 0, 1, 0, 0, 0]), (cd (Try.f11.body.getD .skip) [1, 1, 1, 0, 1, 0, 0, 1, 1, 0, 0, 1, 1, 1, 1, 0, 1, 0, 0, 1]), (cd (Try.f11.body.getD .skip) [1, 1, 1, 0, 1, 0, 0, 1, 1, 0, 0, 1, 1, 1, 1, 0, 1, 0, 1, 0]), (cd (Try.f11.body.getD .skip) [1, 1, 1, 0, 1, 0, 0, 1, 1, 0, 0, 1, 1, 1, 1, 0, 1, 0, 1, 1, 0, 0])]) (N := (fun s w => s11_p6 K B1 (s 3) (s 5) (s 6) (s 7) (s 9) (s 10) (s 11) (s 12) (s 17) (s 18) (s 19) w)) (N' := (s11_p6_den K (fun s w => B1 [s 3, s 17, s 18, s 19] w))) (X := (fun i => (bif Nat.beq i 2 then (fun s w => s11_p2 K B1 (s 3) (s 17) (s 18) (s 19) w) else (bif Nat.beq i 1 then (fun s w => s11_p2 K B1 (s 3) (s 17) (s 18) (s 19) w) else (bif Nat.beq i 0 then (fun s w => s11_p1 K w) else (fun _ _ => False)))))) (X' := (fun i => (bif Nat.beq i 2 then (s11_p2_den K (fun s w => B1 [s 3, s 17, s 18, s 19] w)) else (bif Nat.beq i 1 then (s11_p2_den K (fun s w => B1 [s 3, s 17, s 18, s 19] w)) else (bif Nat.beq i 0 then (s11_p1_den K) else (fun _ _ => False)))))) (R := s11_R K) (s := s) (w := w) (p := s11_p7 K B1 (s 3) (s 5) (s 6) (s 7) (s 8) (s 9) (s 17) (s 18) (s 19) w) (q := s11_p7_den K (fun s w => B1 [s 3, s 17, s 18, s 19] w) s w) (fun s w h => s11_p6_ok K B1 s w @h) (fun i => (tr_bif (fun s w h => s11_p2_ok K B1 s w @h) (tr_bif (fun s w h => s11_p2_ok K B1 s w @h) (tr_bif (fun s w h => s11_p1_ok K s w @h) tr_id)))) (by kernel_rfl) (by kernel_rfl) @h
def s11_p8 (K : Value → World → Prop) (B1 : List Value → World → Prop) (t3 t5 t6 t7 t17 t18 t19 t35 : Value) (w : World) : Prop :=
  boI .eql t35 (.int .i64 4) (fun t87 w =>
  ifb t87
  (boI .neq t6 (.int .i64 0) (fun t89 w =>
  ifb t89
  (s11_p2 K B1 t3 t17 t18 t19 w)
  (boI .lss t7 (.int .i64 0) (fun t91 w =>
  gd t91 false (fun K w => K t7 w) (fun t93 w =>
  gd t91 false (boI .gtr t93 (.int .i64 0)) (fun t94 w =>
  gd t91 false (fun K w => K t94 w) (fun t95 w =>
  gd t95 true (fun K w => K t3 w) (fun t96 w =>
  gd t95 true (fd 1 t5) (fun t97 w =>
  gd t95 true (ld1 t97) (fun t98 w =>
  gd t95 true (fd 2 t5) (fun t99 w =>
  gd t95 true (ld1 t99) (fun t100 w =>
  gd t95 true (fd 4 t5) (fun t101 w =>
  gd t95 true (ld1 t101) (fun t102 w =>
  gd t95 true (fun K w => K t7 w) (fun t103 w =>
  gd t95 true (cl Try.prog 33 #[t96, t98, t100, t102, t103]) (fun t104 w =>
  gd t95 true (boF true .neq t104 .nilIface) (fun t105 w =>
  gd t91 false (pk t95 t105 (.bool false)) (fun t106 w =>
  pk t91 (.bool true) t106 (fun t107 w =>
  ifb t107
  (K (.bool false) w)
  (fd 1 t5 (fun t109 w =>
  ld1 t109 (fun t110 w =>
  fd 2 t5 (fun t111 w =>
  ld1 t111 (fun t112 w =>
  fd 4 t5 (fun t113 w =>
  ld1 t113 (fun t114 w =>
  boI .add t7 (.int .i64 1) (fun t116 w =>
  cl Try.prog 33 #[t3, t110, t112, t114, t116] (fun t117 w =>
  boF true .eql t117 .nilIface (fun t118 w =>
  ifb t118
  (K (.bool false) w)
  (s11_p2 K B1 t3 t17 t18 t19 w)) w) w) w) w) w) w) w) w) w)) w) w) w) w) w) w) w) w) w) w) w) w) w) w) w) w)) w)
  (s11_p2 K B1 t3 t17 t18 t19 w)) w
def s11_p8_den (K : Value → World → Prop) (M1 : (Nat → Value) → World → Prop) : (Nat → Value) → World → Prop := denL Try.prog [(cd (Try.f11.body.getD .skip) [1, 1, 1, 0, 1, 0, 0, 1, 1, 0, 0, 1, 1, 1, 1, 0, 1, 1, 0]), (cd (Try.f11.body.getD .skip) [1, 1, 1, 0, 1, 0, 0, 1, 1, 0, 0, 1, 1, 1, 1, 0, 1, 1, 1])] (s11_p2_den K M1) (fun i => (bif Nat.beq i 2 then (s11_p2_den K M1) else (bif Nat.beq i 1 then (s11_p2_den K M1) else (bif Nat.beq i 0 then (s11_p1_den K) else (fun _ _ => False))))) (s11_R K)
theorem s11_p8_ok (K : Value → World → Prop) (B1 : List Value → World → Prop) (s : Nat → Value) (w : World) (h : s11_p8 K B1 (s 3) (s 5) (s 6) (s 7) (s 17) (s 18) (s 19) (s 35) w) : Tr (s11_p8_den K (fun s w => B1 [s 3, s 17, s 18, s 19] w) s w) :=
  tr_simple (P := Try.prog) (codes := [(cd (Try.f11.body.getD .skip) [1, 1, 1, 0, 1, 0, 0, 1, 1, 0, 0, 1, 1, 1, 1, 0, 1, 1, 0]), (cd (Try.f11.body.getD .skip) [1, 1, 1, 0, 1, 0, 0, 1, 1, 0, 0, 1, 1, 1, 1, 0, 1, 1, 1])]) (N := (fun s w => s11_p2 K B1 (s 3) (s 17) (s 18) (s 19) w)) (N' := (s11_p2_den K (fun s w => B1 [s 3, s 17, s 18, s 19] w))) (X := (fun i => (bif Nat.beq i 2 then (fun s w => s11_p2 K B1 (s 3) (s 17) (s 18) (s 19) w) else (bif Nat.beq i 1 then (fun s w => s11_p2 K B1 (s 3) (s 17) (s 18) (s 19) w) else (bif Nat.beq i 0 then (fun s w => s11_p1 K w) else (fun _ _ => False)))))) (X' := (fun i => (bif Nat.beq i 2 then (s11_p2_den K (fun s w => B1 [s 3, s 17, s 18, s 19] w)) else (bif Nat.beq i 1 then (s11_p2_den K (fun s w => B1 [s 3, s 17, s 18, s 19] w)) else (bif Nat.beq i 0 then (s11_p1_den K) else (fun _ _ => False)))))) (R := s11_R K) (s := s) (w := w) (p := s11_p8 K B1 (s 3) (s 5) (s 6) (s 7) (s 17) (s 18) (s 19) (s 35) w) (q := s11_p8_den K (fun s w => B1 [s 3, s 17, s 18, s 19] w) s w) (fun s w h => s11_p2_ok K B1 s w @h) (fun i => (tr_bif (fun s w h => s11_p2_ok K B1 s w @h) (tr_bif (fun s w h => s11_p2_ok K B1 s w @h) (tr_bif (fun s w h => s11_p1_ok K s w @h) tr_id)))) (by kernel_rfl) (by kernel_rfl) @h
def s11_p9 (K : Value → World → Prop) (B1 : List Value → World → Prop) (t3 t5 t6 t7 t8 t9 t17 t18 t19 t35 t36 : Value) (w : World) : Prop :=
  ifb t36
  (s11_p7 K B1 t3 t5 t6 t7 t8 t9 t17 t18 t19 w)
  (s11_p8 K B1 t3 t5 t6 t7 t17 t18 t19 t35 w)
def s11_p9_den (K : Value → World → Prop) (M1 : (Nat → Value) → World → Prop) : (Nat → Value) → World → Prop := fun s w => ifb (ev s (.tmp 36)) ((s11_p7_den K M1) s w) ((s11_p8_den K M1) s w)
theorem s11_p9_ok (K : Value → World → Prop) (B1 : List Value → World → Prop) (s : Nat → Value) (w : World) (h : s11_p9 K B1 (s 3) (s 5) (s 6) (s 7) (s 8) (s 9) (s 17) (s 18) (s 19) (s 35) (s 36) w) : Tr (s11_p9_den K (fun s w => B1 [s 3, s 17, s 18, s 19] w) s w) :=
  tr_cond (v := ev s (.tmp 36)) (a := (fun s w => s11_p7 K B1 (s 3) (s 5) (s 6) (s 7) (s 8) (s 9) (s 17) (s 18) (s 19) w) s w) (a' := (s11_p7_den K (fun s w => B1 [s 3, s 17, s 18, s 19] w)) s w) (b := (fun s w => s11_p8 K B1 (s 3) (s 5) (s 6) (s 7) (s 17) (s 18) (s 19) (s 35) w) s w) (b' := (s11_p8_den K (fun s w => B1 [s 3, s 17, s 18, s 19] w)) s w) (p := s11_p9 K B1 (s 3) (s 5) (s 6) (s 7) (s 8) (s 9) (s 17) (s 18) (s 19) (s 35) (s 36) w) (q := s11_p9_den K (fun s w => B1 [s 3, s 17, s 18, s 19] w) s w) ((fun s w h => s11_p7_ok K B1 s w @h) s w) ((fun s w h => s11_p8_ok K B1 s w @h) s w) (by kernel_rfl) (by kernel_rfl) @h
def s11_p10 (K : Value → World → Prop) (B1 : List Value → World → Prop) (t3 t5 t6 t7 t8 t9 t17 t18 t19 t35 : Value) (w : World) : Prop :=
  boI .eql t35 (.int .i64 5) (fun t37 w =>
  s11_p9 K B1 t3 t5 t6 t7 t8 t9 t17 t18 t19 t35 t37 w) w
def s11_p10_den (K : Value → World → Prop) (M1 : (Nat → Value) → World → Prop) : (Nat → Value) → World → Prop := denL Try.prog [(cd (Try.f11.body.getD .skip) [1, 1, 1, 0, 1, 0, 0, 1, 1, 0, 0, 1, 1, 1, 1, 0, 0])] (s11_p9_den K M1) (fun i => (bif Nat.beq i 2 then (s11_p2_den K M1) else (bif Nat.beq i 1 then (s11_p2_den K M1) else (bif Nat.beq i 0 then (s11_p1_den K) else (fun _ _ => False))))) (s11_R K)
theorem s11_p10_ok (K : Value → World → Prop) (B1 : List Value → World → Prop) (s : Nat → Value) (w : World) (h : s11_p10 K B1 (s 3) (s 5) (s 6) (s 7) (s 8) (s 9) (s 17) (s 18) (s 19) (s 35) w) : Tr (s11_p10_den K (fun s w => B1 [s 3, s 17, s 18, s 19] w) s w) :=
  tr_simple (P := Try.prog) (codes := [(cd (Try.f11.body.getD .skip) [1, 1, 1, 0, 1, 0, 0, 1, 1, 0, 0, 1, 1, 1, 1, 0, 0])]) (N := (fun s w => s11_p9 K B1 (s 3) (s 5) (s 6) (s 7) (s 8) (s 9) (s 17) (s 18) (s 19) (s 35) (s 36) w)) (N' := (s11_p9_den K (fun s w => B1 [s 3, s 17, s 18, s 19] w))) (X := (fun i => (bif Nat.beq i 2 then (fun s w => s11_p2 K B1 (s 3) (s 17) (s 18) (s 19) w) else (bif Nat.beq i 1 then (fun s w => s11_p2 K B1 (s 3) (s 17) (s 18) (s 19) w) else (bif Nat.beq i 0 then (fun s w => s11_p1 K w) else (fun _ _ => False)))))) (X' := (fun i => (bif Nat.beq i 2 then (s11_p2_den K (fun s w => B1 [s 3, s 17, s 18, s 19] w)) else (bif Nat.beq i 1 then (s11_p2_den K (fun s w => B1 [s 3, s 17, s 18, s 19] w)) else (bif Nat.beq i 0 then (s11_p1_den K) else (fun _ _ => False)))))) (R := s11_R K) (s := s) (w := w) (p := s11_p10 K B1 (s 3) (s 5) (s 6) (s 7) (s 8) (s 9) (s 17) (s 18) (s 19) (s 35) w) (q := s11_p10_den K (fun s w => B1 [s 3, s 17, s 18, s 19] w) s w) (fun s w h => s11_p9_ok K B1 s w @h) (fun i => (tr_bif (fun s w h => s11_p2_ok K B1 s w @h) (tr_bif (fun s w h => s11_p2_ok K B1 s w @h) (tr_bif (fun s w h => s11_p1_ok K s w @h) tr_id)))) (by kernel_rfl) (by kernel_rfl) @h
def s11_p11 (K : Value → World → Prop) (B1 : List Value → World → Prop) (t3 t17 t18 t19 : Value) (w : World) : Prop :=
  ixs 6 t17 t19 (fun t21 w =>
  ldn 6 t21 (fun t22 w =>
  nw 34 #[(.int .i64 0), (.int .i64 0), (.int .i64 0), (.int .i64 0), (.int .i64 0), (.int .i64 0)] (fun t5 w =>
  stn 6 t5 t22 (fun w =>
  ldn 6 t5 (fun t25 w =>
  cl Try.prog 17 #[t3, t25] (fun t26 w =>
  exq t26 0 (fun t27 w =>
  exq t26 1 (fun t28 w =>
  cl Try.prog 35 #[t3] (fun t31 w =>
  exq t31 0 (fun t32 w =>
  exq t31 1 (fun t33 w =>
  fd 0 t5 (fun t34 w =>
  ld1 t34 (fun t35 w =>
  s11_p10 K B1 t3 t5 t27 t28 t32 t33 t17 t18 t19 t35 w) w) w) w) w) w) w) w) w) w) w) w) w) w
def s11_p11_den (K : Value → World → Prop) (M1 : (Nat → Value) → World → Prop) : (Nat → Value) → World → Prop := denL Try.prog [(cd (Try.f11.body.getD .skip) [1, 1, 1, 0, 1, 0, 0, 1, 1, 0, 0, 0]), (cd (Try.f11.body.getD .skip) [1, 1, 1, 0, 1, 0, 0, 1, 1, 0, 0, 1, 0]), (cd (Try.f11.body.getD .skip) [1, 1, 1, 0, 1, 0, 0, 1, 1, 0, 0, 1, 1, 0]), (cd (Try.f11.body.getD .skip) [1, 1, 1, 0, 1, 0, 0, 1, 1, 0, 0, 1, 1, 1, 0])] (s11_p10_den K M1) (fun i => (bif Nat.beq i 1 then (s11_p2_den K M1) else (bif Nat.beq i 0 then (s11_p1_den K) else (fun _ _ => False)))) (s11_R K)
theorem s11_p11_ok (K : Value → World → Prop) (B1 : List Value → World → Prop) (s : Nat → Value) (w : World) (h : s11_p11 K B1 (s 3) (s 17) (s 18) (s 19) w) : Tr (s11_p11_den K (fun s w => B1 [s 3, s 17, s 18, s 19] w) s w) :=
  tr_simple (P := Try.prog) (codes := [(cd (Try.f11.body.getD .skip) [1, 1, 1, 0, 1, 0, 0, 1, 1, 0, 0, 0]), (cd (Try.f11.body.getD .skip) [1, 1, 1, 0, 1, 0, 0, 1, 1, 0, 0, 1, 0]), (cd (Try.f11.body.getD .skip) [1, 1, 1, 0, 1, 0, 0, 1, 1, 0, 0, 1, 1, 0]), (cd (Try.f11.body.getD .skip) [1, 1, 1, 0, 1, 0, 0, 1, 1, 0, 0, 1, 1, 1, 0])]) (N := (fun s w => s11_p10 K B1 (s 3) (s 5) (s 6) (s 7) (s 8) (s 9) (s 17) (s 18) (s 19) (s 35) w)) (N' := (s11_p10_den K (fun s w => B1 [s 3, s 17, s 18, s 19] w))) (X := (fun i => (bif Nat.beq i 1 then (fun s w => s11_p2 K B1 (s 3) (s 17) (s 18) (s 19) w) else (bif Nat.beq i 0 then (fun s w => s11_p1 K w) else (fun _ _ => False))))) (X' := (fun i => (bif Nat.beq i 1 then (s11_p2_den K (fun s w => B1 [s 3, s 17, s 18, s 19] w)) else (bif Nat.beq i 0 then (s11_p1_den K) else (fun _ _ => False))))) (R := s11_R K) (s := s) (w := w) (p := s11_p11 K B1 (s 3) (s 17) (s 18) (s 19) w) (q := s11_p11_den K (fun s w => B1 [s 3, s 17, s 18, s 19] w) s w) (fun s w h => s11_p10_ok K B1 s w @h) (fun i => (tr_bif (fun s w h => s11_p2_ok K B1 s w @h) (tr_bif (fun s w h => s11_p1_ok K s w @h) tr_id))) (by kernel_rfl) (by kernel_rfl) @h
def s11_p12 (K : Value → World → Prop) (B1 : List Value → World → Prop) (t3 t17 t18 t19 : Value) (w : World) : Prop :=
  boI .lss t19 t18 (fun t20 w =>
  ifb t20
  (s11_p11 K B1 t3 t17 t18 t19 w)
  (s11_p1 K w)) w
def s11_p12_den (K : Value → World → Prop) (M1 : (Nat → Value) → World → Prop) : (Nat → Value) → World → Prop := denL Try.prog [(cd (Try.f11.body.getD .skip) [1, 1, 1, 0, 1, 0, 0, 0]), (cd (Try.f11.body.getD .skip) [1, 1, 1, 0, 1, 0, 0, 1, 0])] (s11_p11_den K M1) (fun i => (bif Nat.beq i 0 then (s11_p1_den K) else (fun _ _ => False))) (s11_R K)
theorem s11_p12_ok (K : Value → World → Prop) (B1 : List Value → World → Prop) (s : Nat → Value) (w : World) (h : s11_p12 K B1 (s 3) (s 17) (s 18) (s 19) w) : Tr (s11_p12_den K (fun s w => B1 [s 3, s 17, s 18, s 19] w) s w) :=
  tr_simple (P := Try.prog) (codes := [(cd (Try.f11.body.getD .skip) [1, 1, 1, 0, 1, 0, 0, 0]), (cd (Try.f11.body.getD .skip) [1, 1, 1, 0, 1, 0, 0, 1, 0])]) (N := (fun s w => s11_p11 K B1 (s 3) (s 17) (s 18) (s 19) w)) (N' := (s11_p11_den K (fun s w => B1 [s 3, s 17, s 18, s 19] w))) (X := (fun i => (bif Nat.beq i 0 then (fun s w => s11_p1 K w) else (fun _ _ => False)))) (X' := (fun i => (bif Nat.beq i 0 then (s11_p1_den K) else (fun _ _ => False)))) (R := s11_R K) (s := s) (w := w) (p := s11_p12 K B1 (s 3) (s 17) (s 18) (s 19) w) (q := s11_p12_den K (fun s w => B1 [s 3, s 17, s 18, s 19] w) s w) (fun s w h => s11_p11_ok K B1 s w @h) (fun i => (tr_bif (fun s w h => s11_p1_ok K s w @h) tr_id)) (by kernel_rfl) (by kernel_rfl) @h
def s11_p13_F (K : Value → World → Prop) (B1 : List Value → World → Prop) (l : List Value) (w : World) : Prop :=
  match l with
  | [t3, t17, t18, t19] => s11_p12 K B1 t3 t17 t18 t19 w
  | _ => False
theorem s11_p13_Fe {K : Value → World → Prop} {B1 : List Value → World → Prop} {t3 t17 t18 t19 : Value} {w : World} : s11_p13_F K B1 [t3, t17, t18, t19] w = s11_p12 K B1 t3 t17 t18 t19 w := by kernel_rfl
def s11_p13 (K : Value → World → Prop) (t3 t17 t18 t19 : Value) (w : World) : Prop :=
  LoopL (s11_p13_F K) [t3, t17, t18, t19] w
def s11_p13_den (K : Value → World → Prop) : (Nat → Value) → World → Prop := fun s w => LoopP (fun M1 s w => s11_p12_den K M1 s w) s w
theorem s11_p13_ok (K : Value → World → Prop) (s : Nat → Value) (w : World) (h : s11_p13 K (s 3) (s 17) (s 18) (s 19) w) : Tr (s11_p13_den K s w) :=
  tr_loop (G := fun N' s w => s11_p12_den K N' s w) (F := s11_p13_F K) (sel := fun s => [s 3, s 17, s 18, s 19]) (s := s) (w := w) (p := s11_p13 K (s 3) (s 17) (s 18) (s 19) w) (q := s11_p13_den K s w) (fun B s w h => s11_p12_ok K B s w @h) (by kernel_rfl) (by kernel_rfl) @h
def s11_p14 (K : Value → World → Prop) (t0 : Value) (w : World) : Prop :=
  cl Try.prog 13 #[t0] (fun t14 w =>
  un .not t14 (fun t15 w =>
  ifb t15
  (K (.bool true) w)
  (cl Try.prog 14 #[] (fun t16 w =>
  lnS t0 (fun t18 w =>
  s11_p13 K t16 t0 t18 (.int .i64 0) w) w) w)) w) w
def s11_p14_den (K : Value → World → Prop) : (Nat → Value) → World → Prop := denL Try.prog [(cd (Try.f11.body.getD .skip) [0]), (cd (Try.f11.body.getD .skip) [1, 0, 0]), (cd (Try.f11.body.getD .skip) [1, 0, 1]), (cd (Try.f11.body.getD .skip) [1, 1, 0]), (cd (Try.f11.body.getD .skip) [1, 1, 1, 0, 0])] (s11_p13_den K) (fun i => (fun _ _ => False)) (s11_R K)
theorem s11_p14_ok (K : Value → World → Prop) (s : Nat → Value) (w : World) (h : s11_p14 K (s 0) w) : Tr (s11_p14_den K s w) :=
  tr_simple (P := Try.prog) (codes := [(cd (Try.f11.body.getD .skip) [0]), (cd (Try.f11.body.getD .skip) [1, 0, 0]), (cd (Try.f11.body.getD .skip) [1, 0, 1]), (cd (Try.f11.body.getD .skip) [1, 1, 0]), (cd (Try.f11.body.getD .skip) [1, 1, 1, 0, 0])]) (N := (fun s w => s11_p13 K (s 3) (s 17) (s 18) (s 19) w)) (N' := (s11_p13_den K)) (X := (fun i => (fun _ _ => False))) (X' := (fun i => (fun _ _ => False))) (R := s11_R K) (s := s) (w := w) (p := s11_p14 K (s 0) w) (q := s11_p14_den K s w) (fun s w h => s11_p13_ok K s w @h) (fun i => tr_id) (by kernel_rfl) (by kernel_rfl) @h
/-- the call, from the text -/
theorem c11 (t0 : Value) {K : Value → World → Prop} {w : World} (h : s11_p14 K t0 w) : cl Try.prog 11 #[t0] K w :=
  calls_of_tr (c := (Try.f11.body.getD .skip)) (fn := Try.f11) (q := s11_p14_den K (st0 #[t0]) w) Try.func11 (by kernel_rfl) (by kernel_rfl) (Nat.le_of_ble_eq_true (by kernel_rfl)) (by kernel_rfl) (by kernel_rfl) (s11_p14_ok K (st0 #[t0]) w @h)

/-! ### function 12 : e2e.slotslaw.ConfigIsChecked -/
def s12_R (K : Value → World → Prop) (s : Nat → Value) (w : World) : Prop := retv Try.prog s Try.f12.results.toList (fun vs => K (pack vs) w) w
def s12_p1 (K : Value → World → Prop) (w : World) : Prop :=
  cl Try.prog 16 #[] (fun t33 w =>
  cl Try.prog 47 #[t33] (fun t34 w =>
  exq t34 0 (fun t35 w =>
  exq t34 1 (fun t36 w =>
  boP .neq t35 (.pointer none) (fun t38 w =>
  gd t38 true (fun K w => K t36 w) (fun t40 w =>
  gd t38 true (boF true .eql t40 .nilIface) (fun t41 w =>
  pk t38 t41 (.bool false) (fun t42 w =>
  gd t42 true (fun K w => K t35 w) (fun t44 w =>
  gd t42 true (cl Try.prog 31 #[t44]) (fun t45 w =>
  gd t42 true (boI .eql t45 (.int .i64 0)) (fun t46 w =>
  pk t42 t46 (.bool false) (fun t47 w =>
  K t47 w) w) w) w) w) w) w) w) w) w) w) w) w
def s12_p1_den (K : Value → World → Prop) : (Nat → Value) → World → Prop := denL Try.prog [(cd (Try.f12.body.getD .skip) [1, 1, 1, 0]), (cd (Try.f12.body.getD .skip) [1, 1, 1, 1, 0]), (cd (Try.f12.body.getD .skip) [1, 1, 1, 1, 1])] (fun _ _ => False) (fun i => (fun _ _ => False)) (s12_R K)
theorem s12_p1_ok (K : Value → World → Prop) (s : Nat → Value) (w : World) (h : s12_p1 K w) : Tr (s12_p1_den K s w) :=
  tr_simple (P := Try.prog) (codes := [(cd (Try.f12.body.getD .skip) [1, 1, 1, 0]), (cd (Try.f12.body.getD .skip) [1, 1, 1, 1, 0]), (cd (Try.f12.body.getD .skip) [1, 1, 1, 1, 1])]) (N := (fun _ _ => False)) (N' := (fun _ _ => False)) (X := (fun i => (fun _ _ => False))) (X' := (fun i => (fun _ _ => False))) (R := s12_R K) (s := s) (w := w) (p := s12_p1 K w) (q := s12_p1_den K s w) tr_id (fun i => tr_id) (by kernel_rfl) (by kernel_rfl) @h
def s12_p2 (K : Value → World → Prop) (B1 : List Value → World → Prop) (t10 t11 t12 : Value) (w : World) : Prop :=
  boI .lss t12 t11 (fun t13 w =>
  ifb t13
  (ixs 1 t10 t12 (fun t14 w =>
  ld1 t14 (fun t15 w =>
  cl Try.prog 16 #[] (fun t16 w =>
  nw 30 #[(.int .i64 0), (.int .i64 0), (.slice none 0 0)] (fun t4 w =>
  stn 3 t4 t16 (fun w =>
  cdy Try.prog t15 #[t4] (fun t18 w =>
  ldn 3 t4 (fun t20 w =>
  cl Try.prog 47 #[t20] (fun t21 w =>
  exq t21 0 (fun t22 w =>
  exq t21 1 (fun t23 w =>
  boP .neq t22 (.pointer none) (fun t25 w =>
  gd t25 false (fun K w => K t23 w) (fun t27 w =>
  gd t25 false (cl Try.prog 32 #[t27]) (fun t28 w =>
  gd t25 false (boI .neq t28 (.int .i64 11)) (fun t29 w =>
  pk t25 (.bool true) t29 (fun t30 w =>
  ifb t30
  (K (.bool false) w)
  (boI .add t12 (.int .i64 1) (fun t31 w =>
  B1 [t10, t11, t31] w) w)) w) w) w) w) w) w) w) w) w) w) w) w) w) w) w)
  (s12_p1 K w)) w
def s12_p2_den (K : Value → World → Prop) (M1 : (Nat → Value) → World → Prop) : (Nat → Value) → World → Prop := denL Try.prog [(cd (Try.f12.body.getD .skip) [1, 1, 0, 1, 0, 0, 0]), (cd (Try.f12.body.getD .skip) [1, 1, 0, 1, 0, 0, 1, 0]), (cd (Try.f12.body.getD .skip) [1, 1, 0, 1, 0, 0, 1, 1, 0]), (cd (Try.f12.body.getD .skip) [1, 1, 0, 1, 0, 0, 1, 1, 1])] M1 (fun i => (bif Nat.beq i 0 then (s12_p1_den K) else (fun _ _ => False))) (s12_R K)
theorem s12_p2_ok (K : Value → World → Prop) (B1 : List Value → World → Prop) (s : Nat → Value) (w : World) (h : s12_p2 K B1 (s 10) (s 11) (s 12) w) : Tr (s12_p2_den K (fun s w => B1 [s 10, s 11, s 12] w) s w) :=
  tr_simple (P := Try.prog) (codes := [(cd (Try.f12.body.getD .skip) [1, 1, 0, 1, 0, 0, 0]), (cd (Try.f12.body.getD .skip) [1, 1, 0, 1, 0, 0, 1, 0]), (cd (Try.f12.body.getD .skip) [1, 1, 0, 1, 0, 0, 1, 1, 0]), (cd (Try.f12.body.getD .skip) [1, 1, 0, 1, 0, 0, 1, 1, 1])]) (N := (fun s w => B1 [s 10, s 11, s 12] w)) (N' := (fun s w => B1 [s 10, s 11, s 12] w)) (X := (fun i => (bif Nat.beq i 0 then (fun s w => s12_p1 K w) else (fun _ _ => False)))) (X' := (fun i => (bif Nat.beq i 0 then (s12_p1_den K) else (fun _ _ => False)))) (R := s12_R K) (s := s) (w := w) (p := s12_p2 K B1 (s 10) (s 11) (s 12) w) (q := s12_p2_den K (fun s w => B1 [s 10, s 11, s 12] w) s w) tr_id (fun i => (tr_bif (fun s w h => s12_p1_ok K s w @h) tr_id)) (by kernel_rfl) (by kernel_rfl) @h
def s12_p3_F (K : Value → World → Prop) (B1 : List Value → World → Prop) (l : List Value) (w : World) : Prop :=
  match l with
  | [t10, t11, t12] => s12_p2 K B1 t10 t11 t12 w
  | _ => False
theorem s12_p3_Fe {K : Value → World → Prop} {B1 : List Value → World → Prop} {t10 t11 t12 : Value} {w : World} : s12_p3_F K B1 [t10, t11, t12] w = s12_p2 K B1 t10 t11 t12 w := by kernel_rfl
def s12_p3 (K : Value → World → Prop) (t10 t11 t12 : Value) (w : World) : Prop :=
  LoopL (s12_p3_F K) [t10, t11, t12] w
def s12_p3_den (K : Value → World → Prop) : (Nat → Value) → World → Prop := fun s w => LoopP (fun M1 s w => s12_p2_den K M1 s w) s w
theorem s12_p3_ok (K : Value → World → Prop) (s : Nat → Value) (w : World) (h : s12_p3 K (s 10) (s 11) (s 12) w) : Tr (s12_p3_den K s w) :=
  tr_loop (G := fun N' s w => s12_p2_den K N' s w) (F := s12_p3_F K) (sel := fun s => [s 10, s 11, s 12]) (s := s) (w := w) (p := s12_p3 K (s 10) (s 11) (s 12) w) (q := s12_p3_den K s w) (fun B s w h => s12_p2_ok K B s w @h) (by kernel_rfl) (by kernel_rfl) @h
def s12_p4 (K : Value → World → Prop) (w : World) : Prop :=
  bsq 78 [.nilFunc] 11 [(some (0, 1), (.func (.func 36) #[] #[])), (some (1, 1), (.func (.func 37) #[] #[])), (some (2, 1), (.func (.func 38) #[] #[])), (some (3, 1), (.func (.func 39) #[] #[])), (some (4, 1), (.func (.func 40) #[] #[])), (some (5, 1), (.func (.func 41) #[] #[])), (some (6, 1), (.func (.func 42) #[] #[])), (some (7, 1), (.func (.func 43) #[] #[])), (some (8, 1), (.func (.func 44) #[] #[])), (some (9, 1), (.func (.func 45) #[] #[])), (some (10, 1), (.func (.func 46) #[] #[]))] (fun t9 w =>
  lnS t9 (fun t11 w =>
  s12_p3 K t9 t11 (.int .i64 0) w) w) w
def s12_p4_den (K : Value → World → Prop) : (Nat → Value) → World → Prop := denL Try.prog [(cd (Try.f12.body.getD .skip) [0]), (cd (Try.f12.body.getD .skip) [1, 0]), (cd (Try.f12.body.getD .skip) [1, 1, 0, 0])] (s12_p3_den K) (fun i => (fun _ _ => False)) (s12_R K)
theorem s12_p4_ok (K : Value → World → Prop) (s : Nat → Value) (w : World) (h : s12_p4 K w) : Tr (s12_p4_den K s w) :=
  tr_simple (P := Try.prog) (codes := [(cd (Try.f12.body.getD .skip) [0]), (cd (Try.f12.body.getD .skip) [1, 0]), (cd (Try.f12.body.getD .skip) [1, 1, 0, 0])]) (N := (fun s w => s12_p3 K (s 10) (s 11) (s 12) w)) (N' := (s12_p3_den K)) (X := (fun i => (fun _ _ => False))) (X' := (fun i => (fun _ _ => False))) (R := s12_R K) (s := s) (w := w) (p := s12_p4 K w) (q := s12_p4_den K s w) (fun s w h => s12_p3_ok K s w @h) (fun i => tr_id) (by kernel_rfl) (by kernel_rfl) @h
/-- the call, from the text -/
theorem c12 {K : Value → World → Prop} {w : World} (h : s12_p4 K  w) : cl Try.prog 12 #[] K w :=
  calls_of_tr (c := (Try.f12.body.getD .skip)) (fn := Try.f12) (q := s12_p4_den K (st0 #[]) w) Try.func12 (by kernel_rfl) (by kernel_rfl) (Nat.le_of_ble_eq_true (by kernel_rfl)) (by kernel_rfl) (by kernel_rfl) (s12_p4_ok K (st0 #[]) w @h)

/-! ### function 13 : e2e.slotslaw.zzSmall1 -/
def s13_R (K : Value → World → Prop) (s : Nat → Value) (w : World) : Prop := retv Try.prog s Try.f13.results.toList (fun vs => K (pack vs) w) w
def s13_p1 (K : Value → World → Prop) (t0 : Value) (w : World) : Prop :=
  lnS t0 (fun t5 w =>
  boI .gtr t5 (.int .i64 65536) (fun t7 w =>
  ifb t7
  (K (.bool false) w)
  (K (.bool true) w)) w) w
def s13_p1_den (K : Value → World → Prop) : (Nat → Value) → World → Prop := denL Try.prog [(cd (Try.f13.body.getD .skip) [0]), (cd (Try.f13.body.getD .skip) [1, 0]), (cd (Try.f13.body.getD .skip) [1, 1, 0, 0]), (cd (Try.f13.body.getD .skip) [1, 1, 0, 1]), (cd (Try.f13.body.getD .skip) [1, 1, 1, 0]), (cd (Try.f13.body.getD .skip) [1, 1, 1, 1])] (fun _ _ => False) (fun i => (fun _ _ => False)) (s13_R K)
theorem s13_p1_ok (K : Value → World → Prop) (s : Nat → Value) (w : World) (h : s13_p1 K (s 0) w) : Tr (s13_p1_den K s w) :=
  tr_simple (P := Try.prog) (codes := [(cd (Try.f13.body.getD .skip) [0]), (cd (Try.f13.body.getD .skip) [1, 0]), (cd (Try.f13.body.getD .skip) [1, 1, 0, 0]), (cd (Try.f13.body.getD .skip) [1, 1, 0, 1]), (cd (Try.f13.body.getD .skip) [1, 1, 1, 0]), (cd (Try.f13.body.getD .skip) [1, 1, 1, 1])]) (N := (fun _ _ => False)) (N' := (fun _ _ => False)) (X := (fun i => (fun _ _ => False))) (X' := (fun i => (fun _ _ => False))) (R := s13_R K) (s := s) (w := w) (p := s13_p1 K (s 0) w) (q := s13_p1_den K s w) tr_id (fun i => tr_id) (by kernel_rfl) (by kernel_rfl) @h
/-- the call, from the text -/
theorem c13 (t0 : Value) {K : Value → World → Prop} {w : World} (h : s13_p1 K t0 w) : cl Try.prog 13 #[t0] K w :=
  calls_of_tr (c := (Try.f13.body.getD .skip)) (fn := Try.f13) (q := s13_p1_den K (st0 #[t0]) w) Try.func13 (by kernel_rfl) (by kernel_rfl) (Nat.le_of_ble_eq_true (by kernel_rfl)) (by kernel_rfl) (by kernel_rfl) (s13_p1_ok K (st0 #[t0]) w @h)

/-! ### function 14 : e2e.slotslaw.fresh -/
def s14_R (K : Value → World → Prop) (s : Nat → Value) (w : World) : Prop := retv Try.prog s Try.f14.results.toList (fun vs => K (pack vs) w) w
def s14_p1 (K : Value → World → Prop) (t1 : Value) (w : World) : Prop :=
  K t1 w
def s14_p1_den (K : Value → World → Prop) : (Nat → Value) → World → Prop := denL Try.prog [(cd (Try.f14.body.getD .skip) [1, 1, 1, 0]), (cd (Try.f14.body.getD .skip) [1, 1, 1, 1])] (fun _ _ => False) (fun i => (fun _ _ => False)) (s14_R K)
theorem s14_p1_ok (K : Value → World → Prop) (s : Nat → Value) (w : World) (h : s14_p1 K (s 1) w) : Tr (s14_p1_den K s w) :=
  tr_simple (P := Try.prog) (codes := [(cd (Try.f14.body.getD .skip) [1, 1, 1, 0]), (cd (Try.f14.body.getD .skip) [1, 1, 1, 1])]) (N := (fun _ _ => False)) (N' := (fun _ _ => False)) (X := (fun i => (fun _ _ => False))) (X' := (fun i => (fun _ _ => False))) (R := s14_R K) (s := s) (w := w) (p := s14_p1 K (s 1) w) (q := s14_p1_den K s w) tr_id (fun i => tr_id) (by kernel_rfl) (by kernel_rfl) @h
def s14_p2 (K : Value → World → Prop) (w : World) : Prop :=
  cl Try.prog 16 #[] (fun t4 w =>
  cl Try.prog 47 #[t4] (fun t5 w =>
  exq t5 0 (fun t6 w =>
  exq t5 1 (fun t7 w =>
  boF true .neq t7 .nilIface (fun t9 w =>
  ifb t9
  (False)
  (s14_p1 K t6 w)) w) w) w) w) w
def s14_p2_den (K : Value → World → Prop) : (Nat → Value) → World → Prop := denL Try.prog [(cd (Try.f14.body.getD .skip) [0]), (cd (Try.f14.body.getD .skip) [1, 0]), (cd (Try.f14.body.getD .skip) [1, 1, 0, 0]), (cd (Try.f14.body.getD .skip) [1, 1, 0, 1])] (s14_p1_den K) (fun i => (fun _ _ => False)) (s14_R K)
theorem s14_p2_ok (K : Value → World → Prop) (s : Nat → Value) (w : World) (h : s14_p2 K w) : Tr (s14_p2_den K s w) :=
  tr_simple (P := Try.prog) (codes := [(cd (Try.f14.body.getD .skip) [0]), (cd (Try.f14.body.getD .skip) [1, 0]), (cd (Try.f14.body.getD .skip) [1, 1, 0, 0]), (cd (Try.f14.body.getD .skip) [1, 1, 0, 1])]) (N := (fun s w => s14_p1 K (s 1) w)) (N' := (s14_p1_den K)) (X := (fun i => (fun _ _ => False))) (X' := (fun i => (fun _ _ => False))) (R := s14_R K) (s := s) (w := w) (p := s14_p2 K w) (q := s14_p2_den K s w) (fun s w h => s14_p1_ok K s w @h) (fun i => tr_id) (by kernel_rfl) (by kernel_rfl) @h
/-- the call, from the text -/
theorem c14 {K : Value → World → Prop} {w : World} (h : s14_p2 K  w) : cl Try.prog 14 #[] K w :=
  calls_of_tr (c := (Try.f14.body.getD .skip)) (fn := Try.f14) (q := s14_p2_den K (st0 #[]) w) Try.func14 (by kernel_rfl) (by kernel_rfl) (Nat.le_of_ble_eq_true (by kernel_rfl)) (by kernel_rfl) (by kernel_rfl) (s14_p2_ok K (st0 #[]) w @h)

/-! ### function 15 : e2e.slotsm.New -/
def s15_R (K : Value → World → Prop) (s : Nat → Value) (w : World) : Prop := retv Try.prog s Try.f15.results.toList (fun vs => K (pack vs) w) w
def s15_p1 (K : Value → World → Prop) (t0 : Value) (w : World) : Prop :=
  nw 30 (t0).cells (fun t1 w =>
  ldn 3 t1 (fun t3 w =>
  bdq [(.int .i64 0), (.int .i64 0), (.slice none 0 0), (.int .i64 0), (.slice none 0 0)] [(some (0, 3), t3)] (fun t4 w =>
  nw 48 (t4).cells (fun t5 w =>
  K t5 w) w) w) w) w
def s15_p1_den (K : Value → World → Prop) : (Nat → Value) → World → Prop := denL Try.prog [(cd (Try.f15.body.getD .skip) [0]), (cd (Try.f15.body.getD .skip) [1, 0]), (cd (Try.f15.body.getD .skip) [1, 1])] (fun _ _ => False) (fun i => (fun _ _ => False)) (s15_R K)
theorem s15_p1_ok (K : Value → World → Prop) (s : Nat → Value) (w : World) (h : s15_p1 K (s 0) w) : Tr (s15_p1_den K s w) :=
  tr_simple (P := Try.prog) (codes := [(cd (Try.f15.body.getD .skip) [0]), (cd (Try.f15.body.getD .skip) [1, 0]), (cd (Try.f15.body.getD .skip) [1, 1])]) (N := (fun _ _ => False)) (N' := (fun _ _ => False)) (X := (fun i => (fun _ _ => False))) (X' := (fun i => (fun _ _ => False))) (R := s15_R K) (s := s) (w := w) (p := s15_p1 K (s 0) w) (q := s15_p1_den K s w) tr_id (fun i => tr_id) (by kernel_rfl) (by kernel_rfl) @h
/-- the call, from the text -/
theorem c15 (t0 : Value) {K : Value → World → Prop} {w : World} (h : s15_p1 K t0 w) : cl Try.prog 15 #[t0] K w :=
  calls_of_tr (c := (Try.f15.body.getD .skip)) (fn := Try.f15) (q := s15_p1_den K (st0 #[t0]) w) Try.func15 (by kernel_rfl) (by kernel_rfl) (Nat.le_of_ble_eq_true (by kernel_rfl)) (by kernel_rfl) (by kernel_rfl) (s15_p1_ok K (st0 #[t0]) w @h)

/-! ### function 16 : e2e.api.Park -/
def s16_R (K : Value → World → Prop) (s : Nat → Value) (w : World) : Prop := retv Try.prog s Try.f16.results.toList (fun vs => K (pack vs) w) w
def s16_p1 (K : Value → World → Prop) (w : World) : Prop :=
  nw 30 #[(.int .i64 0), (.int .i64 0), (.slice none 0 0)] (fun t0 w =>
  bdq [(.int .i64 0), (.int .i64 0), (.int .i64 0)] [(some (0, 1), (.int .i64 9)), (some (1, 1), (.int .i64 4)), (some (2, 1), (.int .i64 6))] (fun t1 w =>
  bdq [(.int .i64 0), (.int .i64 0), (.int .i64 0), (.int .i64 0), (.int .i64 0)] [(some (0, 1), (.int .i64 9)), (some (1, 1), (.int .i64 1)), (some (2, 3), t1)] (fun t2 w =>
  bdq [(.int .i64 0), (.int .i64 0), (.int .i64 0)] [(some (0, 1), (.int .i64 12)), (some (1, 1), (.int .i64 5)), (some (2, 1), (.int .i64 8))] (fun t3 w =>
  bdq [(.int .i64 0), (.int .i64 0), (.int .i64 0), (.int .i64 0), (.int .i64 0)] [(some (0, 1), (.int .i64 12)), (some (1, 1), (.int .i64 3)), (some (2, 3), t3)] (fun t4 w =>
  bdq [(.int .i64 0), (.int .i64 0), (.int .i64 0)] [(some (0, 1), (.int .i64 5)), (some (1, 1), (.int .i64 7)), (some (2, 1), (.int .i64 0))] (fun t5 w =>
  bdq [(.int .i64 0), (.int .i64 0), (.int .i64 0), (.int .i64 0), (.int .i64 0)] [(some (0, 1), (.int .i64 7)), (some (1, 1), (.int .i64 5)), (some (2, 3), t5)] (fun t6 w =>
  bdq [(.int .i64 0), (.int .i64 0), (.int .i64 0)] [(some (0, 1), (.int .i64 10)), (some (1, 1), (.int .i64 3)), (some (2, 1), (.int .i64 4))] (fun t7 w =>
  bdq [(.int .i64 0), (.int .i64 0), (.int .i64 0), (.int .i64 0), (.int .i64 0)] [(some (0, 1), (.int .i64 10)), (some (1, 1), (.int .i64 9)), (some (2, 3), t7)] (fun t8 w =>
  bsq 59 [(.int .i64 0), (.int .i64 0), (.int .i64 0), (.int .i64 0), (.int .i64 0)] 4 [(some (0, 5), t2), (some (5, 5), t4), (some (10, 5), t6), (some (15, 5), t8)] (fun t9 w =>
  bdq [(.int .i64 0), (.int .i64 0), (.slice none 0 0)] [(some (0, 1), (.int .i64 6)), (some (1, 1), (.int .i64 90)), (some (2, 1), t9)] (fun t10 w =>
  stn 3 t0 t10 (fun w =>
  ldn 3 t0 (fun r0 _ =>
  K r0 w) w) w) w) w) w) w) w) w) w) w) w) w) w
def s16_p1_den (K : Value → World → Prop) : (Nat → Value) → World → Prop := denL Try.prog [(cd (Try.f16.body.getD .skip) [0]), (cd (Try.f16.body.getD .skip) [1, 0]), (cd (Try.f16.body.getD .skip) [1, 1])] (fun _ _ => False) (fun i => (fun _ _ => False)) (s16_R K)
theorem s16_p1_ok (K : Value → World → Prop) (s : Nat → Value) (w : World) (h : s16_p1 K w) : Tr (s16_p1_den K s w) :=
  tr_simple (P := Try.prog) (codes := [(cd (Try.f16.body.getD .skip) [0]), (cd (Try.f16.body.getD .skip) [1, 0]), (cd (Try.f16.body.getD .skip) [1, 1])]) (N := (fun _ _ => False)) (N' := (fun _ _ => False)) (X := (fun i => (fun _ _ => False))) (X' := (fun i => (fun _ _ => False))) (R := s16_R K) (s := s) (w := w) (p := s16_p1 K w) (q := s16_p1_den K s w) tr_id (fun i => tr_id) (by kernel_rfl) (by kernel_rfl) @h
/-- the call, from the text -/
theorem c16 {K : Value → World → Prop} {w : World} (h : s16_p1 K  w) : cl Try.prog 16 #[] K w :=
  calls_of_tr (c := (Try.f16.body.getD .skip)) (fn := Try.f16) (q := s16_p1_den K (st0 #[]) w) Try.func16 (by kernel_rfl) (by kernel_rfl) (Nat.le_of_ble_eq_true (by kernel_rfl)) (by kernel_rfl) (by kernel_rfl) (s16_p1_ok K (st0 #[]) w @h)

/-! ### function 17 : e2e.slotslaw.play -/
def s17_R (K : Value → World → Prop) (s : Nat → Value) (w : World) : Prop := retv Try.prog s Try.f17.results.toList (fun vs => K (pack vs) w) w
def s17_p1 (K : Value → World → Prop) (t6 t7 : Value) (w : World) : Prop :=
  cl Try.prog 32 #[t6] (fun t107 w =>
  K (.tuple #[t107, t7]) w) w
def s17_p1_den (K : Value → World → Prop) : (Nat → Value) → World → Prop := denL Try.prog [(cd (Try.f17.body.getD .skip) [1, 1, 1, 1, 0]), (cd (Try.f17.body.getD .skip) [1, 1, 1, 1, 1])] (fun _ _ => False) (fun i => (fun _ _ => False)) (s17_R K)
theorem s17_p1_ok (K : Value → World → Prop) (s : Nat → Value) (w : World) (h : s17_p1 K (s 6) (s 7) w) : Tr (s17_p1_den K s w) :=
  tr_simple (P := Try.prog) (codes := [(cd (Try.f17.body.getD .skip) [1, 1, 1, 1, 0]), (cd (Try.f17.body.getD .skip) [1, 1, 1, 1, 1])]) (N := (fun _ _ => False)) (N' := (fun _ _ => False)) (X := (fun i => (fun _ _ => False))) (X' := (fun i => (fun _ _ => False))) (R := s17_R K) (s := s) (w := w) (p := s17_p1 K (s 6) (s 7) w) (q := s17_p1_den K s w) tr_id (fun i => tr_id) (by kernel_rfl) (by kernel_rfl) @h
def s17_p2 (K : Value → World → Prop) (t0 t1 : Value) (w : World) : Prop :=
  nw 34 (t1).cells (fun t3 w =>
  fd 0 t3 (fun t8 w =>
  ld1 t8 (fun t9 w =>
  boI .eql t9 (.int .i64 0) (fun t11 w =>
  ifb t11
  (fd 1 t3 (fun t13 w =>
  ld1 t13 (fun t14 w =>
  fd 2 t3 (fun t15 w =>
  ld1 t15 (fun t16 w =>
  fd 4 t3 (fun t17 w =>
  ld1 t17 (fun t18 w =>
  fd 5 t3 (fun t19 w =>
  ld1 t19 (fun t20 w =>
  cl Try.prog 29 #[t0, t14, t16, t18, t20] (fun t21 w =>
  s17_p1 K t21 (.int .i64 0) w) w) w) w) w) w) w) w) w) w)
  (boI .eql t9 (.int .i64 1) (fun t23 w =>
  ifb t23
  (fd 1 t3 (fun t25 w =>
  ld1 t25 (fun t26 w =>
  fd 2 t3 (fun t27 w =>
  ld1 t27 (fun t28 w =>
  fd 4 t3 (fun t29 w =>
  ld1 t29 (fun t30 w =>
  fd 5 t3 (fun t31 w =>
  ld1 t31 (fun t32 w =>
  cl Try.prog 28 #[t0, t26, t28, t30, t32] (fun t33 w =>
  s17_p1 K t33 (.int .i64 0) w) w) w) w) w) w) w) w) w) w)
  (boI .eql t9 (.int .i64 2) (fun t35 w =>
  ifb t35
  (fd 5 t3 (fun t37 w =>
  ld1 t37 (fun t38 w =>
  cl Try.prog 48 #[t0, t38] (fun t39 w =>
  s17_p1 K t39 (.int .i64 0) w) w) w) w)
  (boI .eql t9 (.int .i64 3) (fun t41 w =>
  ifb t41
  (fd 1 t3 (fun t43 w =>
  ld1 t43 (fun t44 w =>
  fd 2 t3 (fun t45 w =>
  ld1 t45 (fun t46 w =>
  fd 4 t3 (fun t47 w =>
  ld1 t47 (fun t48 w =>
  fd 5 t3 (fun t49 w =>
  ld1 t49 (fun t50 w =>
  cl Try.prog 33 #[t0, t44, t46, t48, t50] (fun t51 w =>
  s17_p1 K t51 (.int .i64 0) w) w) w) w) w) w) w) w) w) w)
  (boI .eql t9 (.int .i64 4) (fun t53 w =>
  ifb t53
  (fd 1 t3 (fun t56 w =>
  ld1 t56 (fun t57 w =>
  fd 2 t3 (fun t58 w =>
  ld1 t58 (fun t59 w =>
  fd 4 t3 (fun t60 w =>
  ld1 t60 (fun t61 w =>
  cl Try.prog 49 #[t0, t57, t59, t61] (fun t62 w =>
  exq t62 0 (fun t63 w =>
  exq t62 1 (fun t64 w =>
  s17_p1 K t64 t63 w) w) w) w) w) w) w) w) w) w)
  (boI .eql t9 (.int .i64 5) (fun t66 w =>
  ifb t66
  (fd 1 t3 (fun t69 w =>
  ld1 t69 (fun t70 w =>
  fd 2 t3 (fun t71 w =>
  ld1 t71 (fun t72 w =>
  fd 3 t3 (fun t73 w =>
  ld1 t73 (fun t74 w =>
  fd 4 t3 (fun t75 w =>
  ld1 t75 (fun t76 w =>
  fd 5 t3 (fun t77 w =>
  ld1 t77 (fun t78 w =>
  cl Try.prog 50 #[t0, t70, t72, t74, t76, t78] (fun t79 w =>
  exq t79 0 (fun t80 w =>
  exq t79 1 (fun t81 w =>
  s17_p1 K t81 t80 w) w) w) w) w) w) w) w) w) w) w) w) w) w)
  (boI .eql t9 (.int .i64 6) (fun t83 w =>
  ifb t83
  (fd 1 t3 (fun t86 w =>
  ld1 t86 (fun t87 w =>
  fd 2 t3 (fun t88 w =>
  ld1 t88 (fun t89 w =>
  cl Try.prog 23 #[t0, t87, t89] (fun t90 w =>
  exq t90 0 (fun t91 w =>
  exq t90 1 (fun t92 w =>
  s17_p1 K t92 t91 w) w) w) w) w) w) w) w)
  (boI .eql t9 (.int .i64 7) (fun t94 w =>
  ifb t94
  (fd 1 t3 (fun t97 w =>
  ld1 t97 (fun t98 w =>
  fd 2 t3 (fun t99 w =>
  ld1 t99 (fun t100 w =>
  fd 4 t3 (fun t101 w =>
  ld1 t101 (fun t102 w =>
  cl Try.prog 51 #[t0, t98, t100, t102] (fun t103 w =>
  exq t103 0 (fun t104 w =>
  exq t103 1 (fun t105 w =>
  s17_p1 K t105 t104 w) w) w) w) w) w) w) w) w) w)
  (s17_p1 K .nilIface (.int .i64 0) w)) w)) w)) w)) w)) w)) w)) w)) w) w) w) w
def s17_p2_den (K : Value → World → Prop) : (Nat → Value) → World → Prop := denL Try.prog [(cd (Try.f17.body.getD .skip) [0]), (cd (Try.f17.body.getD .skip) [1, 0]), (cd (Try.f17.body.getD .skip) [1, 1, 0]), (cd (Try.f17.body.getD .skip) [1, 1, 1, 0, 0]), (cd (Try.f17.body.getD .skip) [1, 1, 1, 0, 1])] (s17_p1_den K) (fun i => (fun _ _ => False)) (s17_R K)
theorem s17_p2_ok (K : Value → World → Prop) (s : Nat → Value) (w : World) (h : s17_p2 K (s 0) (s 1) w) : Tr (s17_p2_den K s w) :=
  tr_simple (P := Try.prog) (codes := [(cd (Try.f17.body.getD .skip) [0]), (cd (Try.f17.body.getD .skip) [1, 0]), (cd (Try.f17.body.getD .skip) [1, 1, 0]), (cd (Try.f17.body.getD .skip) [1, 1, 1, 0, 0]), (cd (Try.f17.body.getD .skip) [1, 1, 1, 0, 1])]) (N := (fun s w => s17_p1 K (s 6) (s 7) w)) (N' := (s17_p1_den K)) (X := (fun i => (fun _ _ => False))) (X' := (fun i => (fun _ _ => False))) (R := s17_R K) (s := s) (w := w) (p := s17_p2 K (s 0) (s 1) w) (q := s17_p2_den K s w) (fun s w h => s17_p1_ok K s w @h) (fun i => tr_id) (by kernel_rfl) (by kernel_rfl) @h
/-- the call, from the text -/
theorem c17 (t0 t1 : Value) {K : Value → World → Prop} {w : World} (h : s17_p2 K t0 t1 w) : cl Try.prog 17 #[t0, t1] K w :=
  calls_of_tr (c := (Try.f17.body.getD .skip)) (fn := Try.f17) (q := s17_p2_den K (st0 #[t0, t1]) w) Try.func17 (by kernel_rfl) (by kernel_rfl) (Nat.le_of_ble_eq_true (by kernel_rfl)) (by kernel_rfl) (by kernel_rfl) (s17_p2_ok K (st0 #[t0, t1]) w @h)

/-! ### function 18 : e2e.slotslaw.playModel -/
def s18_R (K : Value → World → Prop) (s : Nat → Value) (w : World) : Prop := retv Try.prog s Try.f18.results.toList (fun vs => K (pack vs) w) w
def s18_p1 (K : Value → World → Prop) (t6 t7 : Value) (w : World) : Prop :=
  K (.tuple #[t6, t7]) w
def s18_p1_den (K : Value → World → Prop) : (Nat → Value) → World → Prop := denL Try.prog [(cd (Try.f18.body.getD .skip) [1, 1, 1, 0]), (cd (Try.f18.body.getD .skip) [1, 1, 1, 1])] (fun _ _ => False) (fun i => (fun _ _ => False)) (s18_R K)
theorem s18_p1_ok (K : Value → World → Prop) (s : Nat → Value) (w : World) (h : s18_p1 K (s 6) (s 7) w) : Tr (s18_p1_den K s w) :=
  tr_simple (P := Try.prog) (codes := [(cd (Try.f18.body.getD .skip) [1, 1, 1, 0]), (cd (Try.f18.body.getD .skip) [1, 1, 1, 1])]) (N := (fun _ _ => False)) (N' := (fun _ _ => False)) (X := (fun i => (fun _ _ => False))) (X' := (fun i => (fun _ _ => False))) (R := s18_R K) (s := s) (w := w) (p := s18_p1 K (s 6) (s 7) w) (q := s18_p1_den K s w) tr_id (fun i => tr_id) (by kernel_rfl) (by kernel_rfl) @h
def s18_p2 (K : Value → World → Prop) (t0 t1 : Value) (w : World) : Prop :=
  nw 34 (t1).cells (fun t3 w =>
  fd 0 t3 (fun t8 w =>
  ld1 t8 (fun t9 w =>
  boI .eql t9 (.int .i64 0) (fun t11 w =>
  ifb t11
  (fd 1 t3 (fun t13 w =>
  ld1 t13 (fun t14 w =>
  fd 2 t3 (fun t15 w =>
  ld1 t15 (fun t16 w =>
  fd 4 t3 (fun t17 w =>
  ld1 t17 (fun t18 w =>
  fd 5 t3 (fun t19 w =>
  ld1 t19 (fun t20 w =>
  cl Try.prog 52 #[t0, t14, t16, t18, t20] (fun t21 w =>
  s18_p1 K t21 (.int .i64 0) w) w) w) w) w) w) w) w) w) w)
  (boI .eql t9 (.int .i64 1) (fun t23 w =>
  ifb t23
  (fd 1 t3 (fun t25 w =>
  ld1 t25 (fun t26 w =>
  fd 2 t3 (fun t27 w =>
  ld1 t27 (fun t28 w =>
  fd 4 t3 (fun t29 w =>
  ld1 t29 (fun t30 w =>
  fd 5 t3 (fun t31 w =>
  ld1 t31 (fun t32 w =>
  cl Try.prog 53 #[t0, t26, t28, t30, t32] (fun t33 w =>
  s18_p1 K t33 (.int .i64 0) w) w) w) w) w) w) w) w) w) w)
  (boI .eql t9 (.int .i64 2) (fun t35 w =>
  ifb t35
  (fd 5 t3 (fun t37 w =>
  ld1 t37 (fun t38 w =>
  cl Try.prog 54 #[t0, t38] (fun t39 w =>
  s18_p1 K t39 (.int .i64 0) w) w) w) w)
  (boI .eql t9 (.int .i64 3) (fun t41 w =>
  ifb t41
  (fd 1 t3 (fun t43 w =>
  ld1 t43 (fun t44 w =>
  fd 2 t3 (fun t45 w =>
  ld1 t45 (fun t46 w =>
  fd 4 t3 (fun t47 w =>
  ld1 t47 (fun t48 w =>
  fd 5 t3 (fun t49 w =>
  ld1 t49 (fun t50 w =>
  cl Try.prog 55 #[t0, t44, t46, t48, t50] (fun t51 w =>
  s18_p1 K t51 (.int .i64 0) w) w) w) w) w) w) w) w) w) w)
  (boI .eql t9 (.int .i64 4) (fun t53 w =>
  ifb t53
  (fd 1 t3 (fun t56 w =>
  ld1 t56 (fun t57 w =>
  fd 2 t3 (fun t58 w =>
  ld1 t58 (fun t59 w =>
  fd 4 t3 (fun t60 w =>
  ld1 t60 (fun t61 w =>
  cl Try.prog 56 #[t0, t57, t59, t61] (fun t62 w =>
  exq t62 0 (fun t63 w =>
  exq t62 1 (fun t64 w =>
  s18_p1 K t64 t63 w) w) w) w) w) w) w) w) w) w)
  (boI .eql t9 (.int .i64 5) (fun t66 w =>
  ifb t66
  (fd 1 t3 (fun t69 w =>
  ld1 t69 (fun t70 w =>
  fd 2 t3 (fun t71 w =>
  ld1 t71 (fun t72 w =>
  fd 3 t3 (fun t73 w =>
  ld1 t73 (fun t74 w =>
  fd 4 t3 (fun t75 w =>
  ld1 t75 (fun t76 w =>
  fd 5 t3 (fun t77 w =>
  ld1 t77 (fun t78 w =>
  cl Try.prog 57 #[t0, t70, t72, t74, t76, t78] (fun t79 w =>
  exq t79 0 (fun t80 w =>
  exq t79 1 (fun t81 w =>
  s18_p1 K t81 t80 w) w) w) w) w) w) w) w) w) w) w) w) w) w)
  (boI .eql t9 (.int .i64 6) (fun t83 w =>
  ifb t83
  (fd 1 t3 (fun t86 w =>
  ld1 t86 (fun t87 w =>
  fd 2 t3 (fun t88 w =>
  ld1 t88 (fun t89 w =>
  cl Try.prog 58 #[t0, t87, t89] (fun t90 w =>
  exq t90 0 (fun t91 w =>
  exq t90 1 (fun t92 w =>
  s18_p1 K t92 t91 w) w) w) w) w) w) w) w)
  (boI .eql t9 (.int .i64 7) (fun t94 w =>
  ifb t94
  (fd 1 t3 (fun t97 w =>
  ld1 t97 (fun t98 w =>
  fd 2 t3 (fun t99 w =>
  ld1 t99 (fun t100 w =>
  fd 4 t3 (fun t101 w =>
  ld1 t101 (fun t102 w =>
  cl Try.prog 59 #[t0, t98, t100, t102] (fun t103 w =>
  exq t103 0 (fun t104 w =>
  exq t103 1 (fun t105 w =>
  s18_p1 K t105 t104 w) w) w) w) w) w) w) w) w) w)
  (s18_p1 K (.int .i64 0) (.int .i64 0) w)) w)) w)) w)) w)) w)) w)) w)) w) w) w) w
def s18_p2_den (K : Value → World → Prop) : (Nat → Value) → World → Prop := denL Try.prog [(cd (Try.f18.body.getD .skip) [0]), (cd (Try.f18.body.getD .skip) [1, 0]), (cd (Try.f18.body.getD .skip) [1, 1, 0, 0]), (cd (Try.f18.body.getD .skip) [1, 1, 0, 1])] (s18_p1_den K) (fun i => (fun _ _ => False)) (s18_R K)
theorem s18_p2_ok (K : Value → World → Prop) (s : Nat → Value) (w : World) (h : s18_p2 K (s 0) (s 1) w) : Tr (s18_p2_den K s w) :=
  tr_simple (P := Try.prog) (codes := [(cd (Try.f18.body.getD .skip) [0]), (cd (Try.f18.body.getD .skip) [1, 0]), (cd (Try.f18.body.getD .skip) [1, 1, 0, 0]), (cd (Try.f18.body.getD .skip) [1, 1, 0, 1])]) (N := (fun s w => s18_p1 K (s 6) (s 7) w)) (N' := (s18_p1_den K)) (X := (fun i => (fun _ _ => False))) (X' := (fun i => (fun _ _ => False))) (R := s18_R K) (s := s) (w := w) (p := s18_p2 K (s 0) (s 1) w) (q := s18_p2_den K s w) (fun s w h => s18_p1_ok K s w @h) (fun i => tr_id) (by kernel_rfl) (by kernel_rfl) @h
/-- the call, from the text -/
theorem c18 (t0 t1 : Value) {K : Value → World → Prop} {w : World} (h : s18_p2 K t0 t1 w) : cl Try.prog 18 #[t0, t1] K w :=
  calls_of_tr (c := (Try.f18.body.getD .skip)) (fn := Try.f18) (q := s18_p2_den K (st0 #[t0, t1]) w) Try.func18 (by kernel_rfl) (by kernel_rfl) (Nat.le_of_ble_eq_true (by kernel_rfl)) (by kernel_rfl) (by kernel_rfl) (s18_p2_ok K (st0 #[t0, t1]) w @h)

/-! ### function 19 : e2e.slotslaw.same -/
def s19_R (K : Value → World → Prop) (s : Nat → Value) (w : World) : Prop := retv Try.prog s Try.f19.results.toList (fun vs => K (pack vs) w) w
def s19_p1 (K : Value → World → Prop) (w : World) : Prop :=
  K (.bool true) w
def s19_p1_den (K : Value → World → Prop) : (Nat → Value) → World → Prop := denL Try.prog [(cd (Try.f19.body.getD .skip) [1, 1, 1, 0]), (cd (Try.f19.body.getD .skip) [1, 1, 1, 1])] (fun _ _ => False) (fun i => (fun _ _ => False)) (s19_R K)
theorem s19_p1_ok (K : Value → World → Prop) (s : Nat → Value) (w : World) (h : s19_p1 K w) : Tr (s19_p1_den K s w) :=
  tr_simple (P := Try.prog) (codes := [(cd (Try.f19.body.getD .skip) [1, 1, 1, 0]), (cd (Try.f19.body.getD .skip) [1, 1, 1, 1])]) (N := (fun _ _ => False)) (N' := (fun _ _ => False)) (X := (fun i => (fun _ _ => False))) (X' := (fun i => (fun _ _ => False))) (R := s19_R K) (s := s) (w := w) (p := s19_p1 K w) (q := s19_p1_den K s w) tr_id (fun i => tr_id) (by kernel_rfl) (by kernel_rfl) @h
def s19_p2 (K : Value → World → Prop) (B1 : List Value → World → Prop) (t2 t3 t33 t34 : Value) (w : World) : Prop :=
  boI .add t34 (.int .i64 1) (fun t90 w =>
  B1 [t2, t3, t33, t90] w) w
def s19_p2_den (K : Value → World → Prop) (M1 : (Nat → Value) → World → Prop) : (Nat → Value) → World → Prop := denL Try.prog [(cd (Try.f19.body.getD .skip) [1, 1, 0, 1, 0, 0, 1, 1, 1])] M1 (fun i => (bif Nat.beq i 0 then (s19_p1_den K) else (fun _ _ => False))) (s19_R K)
theorem s19_p2_ok (K : Value → World → Prop) (B1 : List Value → World → Prop) (s : Nat → Value) (w : World) (h : s19_p2 K B1 (s 2) (s 3) (s 33) (s 34) w) : Tr (s19_p2_den K (fun s w => B1 [s 2, s 3, s 33, s 34] w) s w) :=
  tr_simple (P := Try.prog) (codes := [(cd (Try.f19.body.getD .skip) [1, 1, 0, 1, 0, 0, 1, 1, 1])]) (N := (fun s w => B1 [s 2, s 3, s 33, s 34] w)) (N' := (fun s w => B1 [s 2, s 3, s 33, s 34] w)) (X := (fun i => (bif Nat.beq i 0 then (fun s w => s19_p1 K w) else (fun _ _ => False)))) (X' := (fun i => (bif Nat.beq i 0 then (s19_p1_den K) else (fun _ _ => False)))) (R := s19_R K) (s := s) (w := w) (p := s19_p2 K B1 (s 2) (s 3) (s 33) (s 34) w) (q := s19_p2_den K (fun s w => B1 [s 2, s 3, s 33, s 34] w) s w) tr_id (fun i => (tr_bif (fun s w h => s19_p1_ok K s w @h) tr_id)) (by kernel_rfl) (by kernel_rfl) @h
def s19_p3 (K : Value → World → Prop) (B1 : List Value → World → Prop) (B2 : List Value → World → Prop) (t2 t3 t5 t33 t34 t68 t69 : Value) (w : World) : Prop :=
  boI .add t69 (.int .i64 1) (fun t89 w =>
  B2 [t2, t3, t5, t33, t34, t68, t89] w) w
def s19_p3_den (K : Value → World → Prop) (M1 : (Nat → Value) → World → Prop) (M2 : (Nat → Value) → World → Prop) : (Nat → Value) → World → Prop := denL Try.prog [(cd (Try.f19.body.getD .skip) [1, 1, 0, 1, 0, 0, 1, 1, 0, 0, 1, 1, 1, 0, 0, 1, 1, 1])] M2 (fun i => (bif Nat.beq i 2 then (s19_p2_den K M1) else (bif Nat.beq i 1 then (s19_p2_den K M1) else (bif Nat.beq i 0 then (s19_p1_den K) else (fun _ _ => False))))) (s19_R K)
theorem s19_p3_ok (K : Value → World → Prop) (B1 : List Value → World → Prop) (B2 : List Value → World → Prop) (s : Nat → Value) (w : World) (h : s19_p3 K B1 B2 (s 2) (s 3) (s 5) (s 33) (s 34) (s 68) (s 69) w) : Tr (s19_p3_den K (fun s w => B1 [s 2, s 3, s 33, s 34] w) (fun s w => B2 [s 2, s 3, s 5, s 33, s 34, s 68, s 69] w) s w) :=
  tr_simple (P := Try.prog) (codes := [(cd (Try.f19.body.getD .skip) [1, 1, 0, 1, 0, 0, 1, 1, 0, 0, 1, 1, 1, 0, 0, 1, 1, 1])]) (N := (fun s w => B2 [s 2, s 3, s 5, s 33, s 34, s 68, s 69] w)) (N' := (fun s w => B2 [s 2, s 3, s 5, s 33, s 34, s 68, s 69] w)) (X := (fun i => (bif Nat.beq i 2 then (fun s w => s19_p2 K B1 (s 2) (s 3) (s 33) (s 34) w) else (bif Nat.beq i 1 then (fun s w => s19_p2 K B1 (s 2) (s 3) (s 33) (s 34) w) else (bif Nat.beq i 0 then (fun s w => s19_p1 K w) else (fun _ _ => False)))))) (X' := (fun i => (bif Nat.beq i 2 then (s19_p2_den K (fun s w => B1 [s 2, s 3, s 33, s 34] w)) else (bif Nat.beq i 1 then (s19_p2_den K (fun s w => B1 [s 2, s 3, s 33, s 34] w)) else (bif Nat.beq i 0 then (s19_p1_den K) else (fun _ _ => False)))))) (R := s19_R K) (s := s) (w := w) (p := s19_p3 K B1 B2 (s 2) (s 3) (s 5) (s 33) (s 34) (s 68) (s 69) w) (q := s19_p3_den K (fun s w => B1 [s 2, s 3, s 33, s 34] w) (fun s w => B2 [s 2, s 3, s 5, s 33, s 34, s 68, s 69] w) s w) tr_id (fun i => (tr_bif (fun s w h => s19_p2_ok K B1 s w @h) (tr_bif (fun s w h => s19_p2_ok K B1 s w @h) (tr_bif (fun s w h => s19_p1_ok K s w @h) tr_id)))) (by kernel_rfl) (by kernel_rfl) @h
def s19_p4 (K : Value → World → Prop) (B1 : List Value → World → Prop) (B2 : List Value → World → Prop) (t2 t3 t5 t33 t34 t68 t69 t88 : Value) (w : World) : Prop :=
  ifb t88
  (K (.bool false) w)
  (s19_p3 K B1 B2 t2 t3 t5 t33 t34 t68 t69 w)
def s19_p4_den (K : Value → World → Prop) (M1 : (Nat → Value) → World → Prop) (M2 : (Nat → Value) → World → Prop) : (Nat → Value) → World → Prop := denL Try.prog [(cd (Try.f19.body.getD .skip) [1, 1, 0, 1, 0, 0, 1, 1, 0, 0, 1, 1, 1, 0, 0, 1, 1, 0, 0, 1, 1])] (s19_p3_den K M1 M2) (fun i => (bif Nat.beq i 3 then (s19_p3_den K M1 M2) else (bif Nat.beq i 2 then (s19_p2_den K M1) else (bif Nat.beq i 1 then (s19_p2_den K M1) else (bif Nat.beq i 0 then (s19_p1_den K) else (fun _ _ => False)))))) (s19_R K)
theorem s19_p4_ok (K : Value → World → Prop) (B1 : List Value → World → Prop) (B2 : List Value → World → Prop) (s : Nat → Value) (w : World) (h : s19_p4 K B1 B2 (s 2) (s 3) (s 5) (s 33) (s 34) (s 68) (s 69) (s 88) w) : Tr (s19_p4_den K (fun s w => B1 [s 2, s 3, s 33, s 34] w) (fun s w => B2 [s 2, s 3, s 5, s 33, s 34, s 68, s 69] w) s w) :=
  tr_simple (P := Try.prog) (codes := [(cd (Try.f19.body.getD .skip) [1, 1, 0, 1, 0, 0, 1, 1, 0, 0, 1, 1, 1, 0, 0, 1, 1, 0, 0, 1, 1])]) (N := (fun s w => s19_p3 K B1 B2 (s 2) (s 3) (s 5) (s 33) (s 34) (s 68) (s 69) w)) (N' := (s19_p3_den K (fun s w => B1 [s 2, s 3, s 33, s 34] w) (fun s w => B2 [s 2, s 3, s 5, s 33, s 34, s 68, s 69] w))) (X := (fun i => (bif Nat.beq i 3 then (fun s w => s19_p3 K B1 B2 (s 2) (s 3) (s 5) (s 33) (s 34) (s 68) (s 69) w) else (bif Nat.beq i 2 then (fun s w => s19_p2 K B1 (s 2) (s 3) (s 33) (s 34) w) else (bif Nat.beq i 1 then (fun s w => s19_p2 K B1 (s 2) (s 3) (s 33) (s 34) w) else (bif Nat.beq i 0 then (fun s w => s19_p1 K w) else (fun _ _ => False))))))) (X' := (fun i => (bif Nat.beq i 3 then (s19_p3_den K (fun s w => B1 [s 2, s 3, s 33, s 34] w) (fun s w => B2 [s 2, s 3, s 5, s 33, s 34, s 68, s 69] w)) else (bif Nat.beq i 2 then (s19_p2_den K (fun s w => B1 [s 2, s 3, s 33, s 34] w)) else (bif Nat.beq i 1 then (s19_p2_den K (fun s w => B1 [s 2, s 3, s 33, s 34] w)) else (bif Nat.beq i 0 then (s19_p1_den K) else (fun _ _ => False))))))) (R := s19_R K) (s := s) (w := w) (p := s19_p4 K B1 B2 (s 2) (s 3) (s 5) (s 33) (s 34) (s 68) (s 69) (s 88) w) (q := s19_p4_den K (fun s w => B1 [s 2, s 3, s 33, s 34] w) (fun s w => B2 [s 2, s 3, s 5, s 33, s 34, s 68, s 69] w) s w) (fun s w h => s19_p3_ok K B1 B2 s w @h) (fun i => (tr_bif (fun s w h => s19_p3_ok K B1 B2 s w @h) (tr_bif (fun s w h => s19_p2_ok K B1 s w @h) (tr_bif (fun s w h => s19_p2_ok K B1 s w @h) (tr_bif (fun s w h => s19_p1_ok K s w @h) tr_id))))) (by kernel_rfl) (by kernel_rfl) @h
def s19_p5_d (K : Value → World → Prop) (B1 : List Value → World → Prop) (B2 : List Value → World → Prop) (t2 t3 t5 t6 t33 t34 t68 t69 : Value) (w0 w : World) : Prop :=
  fd 3 t2 (fun t72 _ =>
  ld1 t72 (fun t73 _ =>
  ixs 1 t73 t5 (fun t75 _ =>
  ld1 t75 (fun t76 _ =>
  ixs 4 t76 t6 (fun t78 _ =>
  ldn 4 t78 (fun t79 _ =>
  fd 3 t3 (fun t80 _ =>
  ld1 t80 (fun t81 _ =>
  ixs 1 t81 t5 (fun t83 _ =>
  ld1 t83 (fun t84 _ =>
  ixs 4 t84 t6 (fun t86 _ =>
  ldn 4 t86 (fun t87 _ =>
  qv (bor Try.prog .neq 61 (.tmp 79) (.tmp 87) t79 t87) w0 (fun t88 =>
  s19_p4 K B1 B2 t2 t3 t5 t33 t34 t68 t69 t88 w)) w0) w0) w0) w0) w0) w0) w0) w0) w0) w0) w0) w0
def s19_p5 (K : Value → World → Prop) (B1 : List Value → World → Prop) (B2 : List Value → World → Prop) (t2 t3 t5 t6 t33 t34 t68 t69 : Value) (w : World) : Prop := s19_p5_d K B1 B2 t2 t3 t5 t6 t33 t34 t68 t69 (drw w) (drw w)
def s19_p5_den (K : Value → World → Prop) (M1 : (Nat → Value) → World → Prop) (M2 : (Nat → Value) → World → Prop) : (Nat → Value) → World → Prop := denL Try.prog [(cd (Try.f19.body.getD .skip) [1, 1, 0, 1, 0, 0, 1, 1, 0, 0, 1, 1, 1, 0, 0, 1, 1, 0, 0, 1, 0])] (s19_p4_den K M1 M2) (fun i => (bif Nat.beq i 3 then (s19_p3_den K M1 M2) else (bif Nat.beq i 2 then (s19_p2_den K M1) else (bif Nat.beq i 1 then (s19_p2_den K M1) else (bif Nat.beq i 0 then (s19_p1_den K) else (fun _ _ => False)))))) (s19_R K)
theorem s19_p5_ok (K : Value → World → Prop) (B1 : List Value → World → Prop) (B2 : List Value → World → Prop) (s : Nat → Value) (w : World) (h : s19_p5 K B1 B2 (s 2) (s 3) (s 5) (s 6) (s 33) (s 34) (s 68) (s 69) w) : Tr (s19_p5_den K (fun s w => B1 [s 2, s 3, s 33, s 34] w) (fun s w => B2 [s 2, s 3, s 5, s 33, s 34, s 68, s 69] w) s w) :=
  tr_draw (P := Try.prog) (ops := (ro (cd (Try.f19.body.getD .skip) [1, 1, 0, 1, 0, 0, 1, 1, 0, 0, 1, 1, 1, 0, 0, 1, 1, 0, 0, 1, 0]))) (ms := [0, 1, 0, 7, 15, 0, 63, 127, 0, 256, 0, 1792, 3840, 0, 16128, 32512, 65535]) (cs := [0, 1, 2, 3, 4, 5, 6, 7, 8, 9, 10, 11, 12, 13, 14, 15, 16]) (N := (fun s w => s19_p4 K B1 B2 (s 2) (s 3) (s 5) (s 33) (s 34) (s 68) (s 69) (s 88) w)) (N' := (s19_p4_den K (fun s w => B1 [s 2, s 3, s 33, s 34] w) (fun s w => B2 [s 2, s 3, s 5, s 33, s 34, s 68, s 69] w))) (s := s) (w := w) (p := s19_p5 K B1 B2 (s 2) (s 3) (s 5) (s 6) (s 33) (s 34) (s 68) (s 69) w) (q := s19_p5_den K (fun s w => B1 [s 2, s 3, s 33, s 34] w) (fun s w => B2 [s 2, s 3, s 5, s 33, s 34, s 68, s 69] w) s w) (by kernel_rfl) (by kernel_rfl) (fun s w h => s19_p4_ok K B1 B2 s w @h) (by kernel_rfl) (by kernel_rfl) @h
def s19_p6 (K : Value → World → Prop) (B1 : List Value → World → Prop) (B2 : List Value → World → Prop) (t2 t3 t5 t33 t34 t68 t69 : Value) (w : World) : Prop :=
  s19_p5 K B1 B2 t2 t3 t5 t69 t33 t34 t68 t69 w
def s19_p6_den (K : Value → World → Prop) (M1 : (Nat → Value) → World → Prop) (M2 : (Nat → Value) → World → Prop) : (Nat → Value) → World → Prop := denL Try.prog [(cd (Try.f19.body.getD .skip) [1, 1, 0, 1, 0, 0, 1, 1, 0, 0, 1, 1, 1, 0, 0, 1, 1, 0, 0, 0])] (s19_p5_den K M1 M2) (fun i => (bif Nat.beq i 3 then (s19_p3_den K M1 M2) else (bif Nat.beq i 2 then (s19_p2_den K M1) else (bif Nat.beq i 1 then (s19_p2_den K M1) else (bif Nat.beq i 0 then (s19_p1_den K) else (fun _ _ => False)))))) (s19_R K)
theorem s19_p6_ok (K : Value → World → Prop) (B1 : List Value → World → Prop) (B2 : List Value → World → Prop) (s : Nat → Value) (w : World) (h : s19_p6 K B1 B2 (s 2) (s 3) (s 5) (s 33) (s 34) (s 68) (s 69) w) : Tr (s19_p6_den K (fun s w => B1 [s 2, s 3, s 33, s 34] w) (fun s w => B2 [s 2, s 3, s 5, s 33, s 34, s 68, s 69] w) s w) :=
  tr_simple (P := Try.prog) (codes := [(cd (Try.f19.body.getD .skip) [1, 1, 0, 1, 0, 0, 1, 1, 0, 0, 1, 1, 1, 0, 0, 1, 1, 0, 0, 0])]) (N := (fun s w => s19_p5 K B1 B2 (s 2) (s 3) (s 5) (s 6) (s 33) (s 34) (s 68) (s 69) w)) (N' := (s19_p5_den K (fun s w => B1 [s 2, s 3, s 33, s 34] w) (fun s w => B2 [s 2, s 3, s 5, s 33, s 34, s 68, s 69] w))) (X := (fun i => (bif Nat.beq i 3 then (fun s w => s19_p3 K B1 B2 (s 2) (s 3) (s 5) (s 33) (s 34) (s 68) (s 69) w) else (bif Nat.beq i 2 then (fun s w => s19_p2 K B1 (s 2) (s 3) (s 33) (s 34) w) else (bif Nat.beq i 1 then (fun s w => s19_p2 K B1 (s 2) (s 3) (s 33) (s 34) w) else (bif Nat.beq i 0 then (fun s w => s19_p1 K w) else (fun _ _ => False))))))) (X' := (fun i => (bif Nat.beq i 3 then (s19_p3_den K (fun s w => B1 [s 2, s 3, s 33, s 34] w) (fun s w => B2 [s 2, s 3, s 5, s 33, s 34, s 68, s 69] w)) else (bif Nat.beq i 2 then (s19_p2_den K (fun s w => B1 [s 2, s 3, s 33, s 34] w)) else (bif Nat.beq i 1 then (s19_p2_den K (fun s w => B1 [s 2, s 3, s 33, s 34] w)) else (bif Nat.beq i 0 then (s19_p1_den K) else (fun _ _ => False))))))) (R := s19_R K) (s := s) (w := w) (p := s19_p6 K B1 B2 (s 2) (s 3) (s 5) (s 33) (s 34) (s 68) (s 69) w) (q := s19_p6_den K (fun s w => B1 [s 2, s 3, s 33, s 34] w) (fun s w => B2 [s 2, s 3, s 5, s 33, s 34, s 68, s 69] w) s w) (fun s w h => s19_p5_ok K B1 B2 s w @h) (fun i => (tr_bif (fun s w h => s19_p3_ok K B1 B2 s w @h) (tr_bif (fun s w h => s19_p2_ok K B1 s w @h) (tr_bif (fun s w h => s19_p2_ok K B1 s w @h) (tr_bif (fun s w h => s19_p1_ok K s w @h) tr_id))))) (by kernel_rfl) (by kernel_rfl) @h
def s19_p7 (K : Value → World → Prop) (B1 : List Value → World → Prop) (B2 : List Value → World → Prop) (t2 t3 t5 t33 t34 t68 t69 : Value) (w : World) : Prop :=
  boI .lss t69 t68 (fun t70 w =>
  ifb t70
  (s19_p6 K B1 B2 t2 t3 t5 t33 t34 t68 t69 w)
  (s19_p2 K B1 t2 t3 t33 t34 w)) w
def s19_p7_den (K : Value → World → Prop) (M1 : (Nat → Value) → World → Prop) (M2 : (Nat → Value) → World → Prop) : (Nat → Value) → World → Prop := denL Try.prog [(cd (Try.f19.body.getD .skip) [1, 1, 0, 1, 0, 0, 1, 1, 0, 0, 1, 1, 1, 0, 0, 0]), (cd (Try.f19.body.getD .skip) [1, 1, 0, 1, 0, 0, 1, 1, 0, 0, 1, 1, 1, 0, 0, 1, 0])] (s19_p6_den K M1 M2) (fun i => (bif Nat.beq i 2 then (s19_p2_den K M1) else (bif Nat.beq i 1 then (s19_p2_den K M1) else (bif Nat.beq i 0 then (s19_p1_den K) else (fun _ _ => False))))) (s19_R K)
theorem s19_p7_ok (K : Value → World → Prop) (B1 : List Value → World → Prop) (B2 : List Value → World → Prop) (s : Nat → Value) (w : World) (h : s19_p7 K B1 B2 (s 2) (s 3) (s 5) (s 33) (s 34) (s 68) (s 69) w) : Tr (s19_p7_den K (fun s w => B1 [s 2, s 3, s 33, s 34] w) (fun s w => B2 [s 2, s 3, s 5, s 33, s 34, s 68, s 69] w) s w) :=
  tr_simple (P := Try.prog) (codes := [(cd (Try.f19.body.getD .skip) [1, 1, 0, 1, 0, 0, 1, 1, 0, 0, 1, 1, 1, 0, 0, 0]), (cd (Try.f19.body.getD .skip) [1, 1, 0, 1, 0, 0, 1, 1, 0, 0, 1, 1, 1, 0, 0, 1, 0])]) (N := (fun s w => s19_p6 K B1 B2 (s 2) (s 3) (s 5) (s 33) (s 34) (s 68) (s 69) w)) (N' := (s19_p6_den K (fun s w => B1 [s 2, s 3, s 33, s 34] w) (fun s w => B2 [s 2, s 3, s 5, s 33, s 34, s 68, s 69] w))) (X := (fun i => (bif Nat.beq i 2 then (fun s w => s19_p2 K B1 (s 2) (s 3) (s 33) (s 34) w) else (bif Nat.beq i 1 then (fun s w => s19_p2 K B1 (s 2) (s 3) (s 33) (s 34) w) else (bif Nat.beq i 0 then (fun s w => s19_p1 K w) else (fun _ _ => False)))))) (X' := (fun i => (bif Nat.beq i 2 then (s19_p2_den K (fun s w => B1 [s 2, s 3, s 33, s 34] w)) else (bif Nat.beq i 1 then (s19_p2_den K (fun s w => B1 [s 2, s 3, s 33, s 34] w)) else (bif Nat.beq i 0 then (s19_p1_den K) else (fun _ _ => False)))))) (R := s19_R K) (s := s) (w := w) (p := s19_p7 K B1 B2 (s 2) (s 3) (s 5) (s 33) (s 34) (s 68) (s 69) w) (q := s19_p7_den K (fun s w => B1 [s 2, s 3, s 33, s 34] w) (fun s w => B2 [s 2, s 3, s 5, s 33, s 34, s 68, s 69] w) s w) (fun s w h => s19_p6_ok K B1 B2 s w @h) (fun i => (tr_bif (fun s w h => s19_p2_ok K B1 s w @h) (tr_bif (fun s w h => s19_p2_ok K B1 s w @h) (tr_bif (fun s w h => s19_p1_ok K s w @h) tr_id)))) (by kernel_rfl) (by kernel_rfl) @h
def s19_p8_F (K : Value → World → Prop) (B1 : List Value → World → Prop) (B2 : List Value → World → Prop) (l : List Value) (w : World) : Prop :=
  match l with
  | [t2, t3, t5, t33, t34, t68, t69] => s19_p7 K B1 B2 t2 t3 t5 t33 t34 t68 t69 w
  | _ => False
theorem s19_p8_Fe {K : Value → World → Prop} {B1 : List Value → World → Prop} {B2 : List Value → World → Prop} {t2 t3 t5 t33 t34 t68 t69 : Value} {w : World} : s19_p8_F K B1 B2 [t2, t3, t5, t33, t34, t68, t69] w = s19_p7 K B1 B2 t2 t3 t5 t33 t34 t68 t69 w := by kernel_rfl
def s19_p8 (K : Value → World → Prop) (B1 : List Value → World → Prop) (t2 t3 t5 t33 t34 t68 t69 : Value) (w : World) : Prop :=
  LoopL (s19_p8_F K B1) [t2, t3, t5, t33, t34, t68, t69] w
def s19_p8_den (K : Value → World → Prop) (M1 : (Nat → Value) → World → Prop) : (Nat → Value) → World → Prop := fun s w => LoopP (fun M2 s w => s19_p7_den K M1 M2 s w) s w
theorem s19_p8_ok (K : Value → World → Prop) (B1 : List Value → World → Prop) (s : Nat → Value) (w : World) (h : s19_p8 K B1 (s 2) (s 3) (s 5) (s 33) (s 34) (s 68) (s 69) w) : Tr (s19_p8_den K (fun s w => B1 [s 2, s 3, s 33, s 34] w) s w) :=
  tr_loop (G := fun N' s w => s19_p7_den K (fun s w => B1 [s 2, s 3, s 33, s 34] w) N' s w) (F := s19_p8_F K B1) (sel := fun s => [s 2, s 3, s 5, s 33, s 34, s 68, s 69]) (s := s) (w := w) (p := s19_p8 K B1 (s 2) (s 3) (s 5) (s 33) (s 34) (s 68) (s 69) w) (q := s19_p8_den K (fun s w => B1 [s 2, s 3, s 33, s 34] w) s w) (fun B s w h => s19_p7_ok K B1 B s w @h) (by kernel_rfl) (by kernel_rfl) @h
def s19_p9 (K : Value → World → Prop) (B1 : List Value → World → Prop) (t2 t3 t5 t33 t34 t62 : Value) (w : World) : Prop :=
  ifb t62
  (K (.bool false) w)
  (fd 3 t2 (fun t63 w =>
  ld1 t63 (fun t64 w =>
  ixs 1 t64 t5 (fun t66 w =>
  ld1 t66 (fun t67 w =>
  lnS t67 (fun t68 w =>
  s19_p8 K B1 t2 t3 t5 t33 t34 t68 (.int .i64 0) w) w) w) w) w) w)
def s19_p9_den (K : Value → World → Prop) (M1 : (Nat → Value) → World → Prop) : (Nat → Value) → World → Prop := denL Try.prog [(cd (Try.f19.body.getD .skip) [1, 1, 0, 1, 0, 0, 1, 1, 0, 0, 1, 0, 1]), (cd (Try.f19.body.getD .skip) [1, 1, 0, 1, 0, 0, 1, 1, 0, 0, 1, 1, 0])] (s19_p8_den K M1) (fun i => (bif Nat.beq i 1 then (s19_p2_den K M1) else (bif Nat.beq i 0 then (s19_p1_den K) else (fun _ _ => False)))) (s19_R K)
theorem s19_p9_ok (K : Value → World → Prop) (B1 : List Value → World → Prop) (s : Nat → Value) (w : World) (h : s19_p9 K B1 (s 2) (s 3) (s 5) (s 33) (s 34) (s 62) w) : Tr (s19_p9_den K (fun s w => B1 [s 2, s 3, s 33, s 34] w) s w) :=
  tr_simple (P := Try.prog) (codes := [(cd (Try.f19.body.getD .skip) [1, 1, 0, 1, 0, 0, 1, 1, 0, 0, 1, 0, 1]), (cd (Try.f19.body.getD .skip) [1, 1, 0, 1, 0, 0, 1, 1, 0, 0, 1, 1, 0])]) (N := (fun s w => s19_p8 K B1 (s 2) (s 3) (s 5) (s 33) (s 34) (s 68) (s 69) w)) (N' := (s19_p8_den K (fun s w => B1 [s 2, s 3, s 33, s 34] w))) (X := (fun i => (bif Nat.beq i 1 then (fun s w => s19_p2 K B1 (s 2) (s 3) (s 33) (s 34) w) else (bif Nat.beq i 0 then (fun s w => s19_p1 K w) else (fun _ _ => False))))) (X' := (fun i => (bif Nat.beq i 1 then (s19_p2_den K (fun s w => B1 [s 2, s 3, s 33, s 34] w)) else (bif Nat.beq i 0 then (s19_p1_den K) else (fun _ _ => False))))) (R := s19_R K) (s := s) (w := w) (p := s19_p9 K B1 (s 2) (s 3) (s 5) (s 33) (s 34) (s 62) w) (q := s19_p9_den K (fun s w => B1 [s 2, s 3, s 33, s 34] w) s w) (fun s w h => s19_p8_ok K B1 s w @h) (fun i => (tr_bif (fun s w h => s19_p2_ok K B1 s w @h) (tr_bif (fun s w h => s19_p1_ok K s w @h) tr_id))) (by kernel_rfl) (by kernel_rfl) @h
def s19_p10_d (K : Value → World → Prop) (B1 : List Value → World → Prop) (t2 t3 t5 t33 t34 : Value) (w0 w : World) : Prop :=
  fd 2 t2 (fun t37 _ =>
  ld1 t37 (fun t38 _ =>
  ixs 1 t38 t5 (fun t40 _ =>
  ld1 t40 (fun t41 _ =>
  fd 2 t3 (fun t42 _ =>
  ld1 t42 (fun t43 _ =>
  ixs 1 t43 t5 (fun t45 _ =>
  ld1 t45 (fun t46 _ =>
  boI .neq t41 t46 (fun t47 _ =>
  gd t47 false (fd 3 t2) (fun t49 _ =>
  gd t47 false (ld1 t49) (fun t50 _ =>
  gd t47 false (fun K w => K t5 w) (fun t51 _ =>
  gd t47 false (ixs 1 t50 t51) (fun t52 _ =>
  gd t47 false (ld1 t52) (fun t53 _ =>
  gd t47 false (lnS t53) (fun t54 _ =>
  gd t47 false (fd 3 t3) (fun t55 _ =>
  gd t47 false (ld1 t55) (fun t56 _ =>
  gd t47 false (fun K w => K t5 w) (fun t57 _ =>
  gd t47 false (ixs 1 t56 t57) (fun t58 _ =>
  gd t47 false (ld1 t58) (fun t59 _ =>
  gd t47 false (lnS t59) (fun t60 _ =>
  gd t47 false (boI .neq t54 t60) (fun t61 _ =>
  pk t47 (.bool true) t61 (fun t62 _ =>
  s19_p9 K B1 t2 t3 t5 t33 t34 t62 w) w0) w0) w0) w0) w0) w0) w0) w0) w0) w0) w0) w0) w0) w0) w0) w0) w0) w0) w0) w0) w0) w0) w0
def s19_p10 (K : Value → World → Prop) (B1 : List Value → World → Prop) (t2 t3 t5 t33 t34 : Value) (w : World) : Prop := s19_p10_d K B1 t2 t3 t5 t33 t34 (drw w) (drw w)
def s19_p10_den (K : Value → World → Prop) (M1 : (Nat → Value) → World → Prop) : (Nat → Value) → World → Prop := denL Try.prog [(cd (Try.f19.body.getD .skip) [1, 1, 0, 1, 0, 0, 1, 1, 0, 0, 1, 0, 0])] (s19_p9_den K M1) (fun i => (bif Nat.beq i 1 then (s19_p2_den K M1) else (bif Nat.beq i 0 then (s19_p1_den K) else (fun _ _ => False)))) (s19_R K)
theorem s19_p10_ok (K : Value → World → Prop) (B1 : List Value → World → Prop) (s : Nat → Value) (w : World) (h : s19_p10 K B1 (s 2) (s 3) (s 5) (s 33) (s 34) w) : Tr (s19_p10_den K (fun s w => B1 [s 2, s 3, s 33, s 34] w) s w) :=
  tr_draw (P := Try.prog) (ops := (ro (cd (Try.f19.body.getD .skip) [1, 1, 0, 1, 0, 0, 1, 1, 0, 0, 1, 0, 0]))) (ms := [0, 1, 0, 7, 15, 0, 32, 0, 224, 480, 1023, 2047, 4095, 8191, 4095, 32767, 65535, 131071, 4095, 266239, 4095, 1839103, 3936255, 8130559, 16777215, 33554431]) (cs := [0, 1, 2, 3, 4, 5, 6, 7, 8, 9, 10, 11, 12, 13, 14, 15, 16, 17, 18, 19, 20, 21, 22, 23, 24, 25]) (N := (fun s w => s19_p9 K B1 (s 2) (s 3) (s 5) (s 33) (s 34) (s 62) w)) (N' := (s19_p9_den K (fun s w => B1 [s 2, s 3, s 33, s 34] w))) (s := s) (w := w) (p := s19_p10 K B1 (s 2) (s 3) (s 5) (s 33) (s 34) w) (q := s19_p10_den K (fun s w => B1 [s 2, s 3, s 33, s 34] w) s w) (by kernel_rfl) (by kernel_rfl) (fun s w h => s19_p9_ok K B1 s w @h) (by kernel_rfl) (by kernel_rfl) @h
def s19_p11 (K : Value → World → Prop) (B1 : List Value → World → Prop) (t2 t3 t33 t34 : Value) (w : World) : Prop :=
  s19_p10 K B1 t2 t3 t34 t33 t34 w
def s19_p11_den (K : Value → World → Prop) (M1 : (Nat → Value) → World → Prop) : (Nat → Value) → World → Prop := denL Try.prog [(cd (Try.f19.body.getD .skip) [1, 1, 0, 1, 0, 0, 1, 1, 0, 0, 0])] (s19_p10_den K M1) (fun i => (bif Nat.beq i 1 then (s19_p2_den K M1) else (bif Nat.beq i 0 then (s19_p1_den K) else (fun _ _ => False)))) (s19_R K)
theorem s19_p11_ok (K : Value → World → Prop) (B1 : List Value → World → Prop) (s : Nat → Value) (w : World) (h : s19_p11 K B1 (s 2) (s 3) (s 33) (s 34) w) : Tr (s19_p11_den K (fun s w => B1 [s 2, s 3, s 33, s 34] w) s w) :=
  tr_simple (P := Try.prog) (codes := [(cd (Try.f19.body.getD .skip) [1, 1, 0, 1, 0, 0, 1, 1, 0, 0, 0])]) (N := (fun s w => s19_p10 K B1 (s 2) (s 3) (s 5) (s 33) (s 34) w)) (N' := (s19_p10_den K (fun s w => B1 [s 2, s 3, s 33, s 34] w))) (X := (fun i => (bif Nat.beq i 1 then (fun s w => s19_p2 K B1 (s 2) (s 3) (s 33) (s 34) w) else (bif Nat.beq i 0 then (fun s w => s19_p1 K w) else (fun _ _ => False))))) (X' := (fun i => (bif Nat.beq i 1 then (s19_p2_den K (fun s w => B1 [s 2, s 3, s 33, s 34] w)) else (bif Nat.beq i 0 then (s19_p1_den K) else (fun _ _ => False))))) (R := s19_R K) (s := s) (w := w) (p := s19_p11 K B1 (s 2) (s 3) (s 33) (s 34) w) (q := s19_p11_den K (fun s w => B1 [s 2, s 3, s 33, s 34] w) s w) (fun s w h => s19_p10_ok K B1 s w @h) (fun i => (tr_bif (fun s w h => s19_p2_ok K B1 s w @h) (tr_bif (fun s w h => s19_p1_ok K s w @h) tr_id))) (by kernel_rfl) (by kernel_rfl) @h
def s19_p12 (K : Value → World → Prop) (B1 : List Value → World → Prop) (t2 t3 t33 t34 : Value) (w : World) : Prop :=
  boI .lss t34 t33 (fun t35 w =>
  ifb t35
  (s19_p11 K B1 t2 t3 t33 t34 w)
  (s19_p1 K w)) w
def s19_p12_den (K : Value → World → Prop) (M1 : (Nat → Value) → World → Prop) : (Nat → Value) → World → Prop := denL Try.prog [(cd (Try.f19.body.getD .skip) [1, 1, 0, 1, 0, 0, 0]), (cd (Try.f19.body.getD .skip) [1, 1, 0, 1, 0, 0, 1, 0])] (s19_p11_den K M1) (fun i => (bif Nat.beq i 0 then (s19_p1_den K) else (fun _ _ => False))) (s19_R K)
theorem s19_p12_ok (K : Value → World → Prop) (B1 : List Value → World → Prop) (s : Nat → Value) (w : World) (h : s19_p12 K B1 (s 2) (s 3) (s 33) (s 34) w) : Tr (s19_p12_den K (fun s w => B1 [s 2, s 3, s 33, s 34] w) s w) :=
  tr_simple (P := Try.prog) (codes := [(cd (Try.f19.body.getD .skip) [1, 1, 0, 1, 0, 0, 0]), (cd (Try.f19.body.getD .skip) [1, 1, 0, 1, 0, 0, 1, 0])]) (N := (fun s w => s19_p11 K B1 (s 2) (s 3) (s 33) (s 34) w)) (N' := (s19_p11_den K (fun s w => B1 [s 2, s 3, s 33, s 34] w))) (X := (fun i => (bif Nat.beq i 0 then (fun s w => s19_p1 K w) else (fun _ _ => False)))) (X' := (fun i => (bif Nat.beq i 0 then (s19_p1_den K) else (fun _ _ => False)))) (R := s19_R K) (s := s) (w := w) (p := s19_p12 K B1 (s 2) (s 3) (s 33) (s 34) w) (q := s19_p12_den K (fun s w => B1 [s 2, s 3, s 33, s 34] w) s w) (fun s w h => s19_p11_ok K B1 s w @h) (fun i => (tr_bif (fun s w h => s19_p1_ok K s w @h) tr_id)) (by kernel_rfl) (by kernel_rfl) @h
def s19_p13_F (K : Value → World → Prop) (B1 : List Value → World → Prop) (l : List Value) (w : World) : Prop :=
  match l with
  | [t2, t3, t33, t34] => s19_p12 K B1 t2 t3 t33 t34 w
  | _ => False
theorem s19_p13_Fe {K : Value → World → Prop} {B1 : List Value → World → Prop} {t2 t3 t33 t34 : Value} {w : World} : s19_p13_F K B1 [t2, t3, t33, t34] w = s19_p12 K B1 t2 t3 t33 t34 w := by kernel_rfl
def s19_p13 (K : Value → World → Prop) (t2 t3 t33 t34 : Value) (w : World) : Prop :=
  LoopL (s19_p13_F K) [t2, t3, t33, t34] w
def s19_p13_den (K : Value → World → Prop) : (Nat → Value) → World → Prop := fun s w => LoopP (fun M1 s w => s19_p12_den K M1 s w) s w
theorem s19_p13_ok (K : Value → World → Prop) (s : Nat → Value) (w : World) (h : s19_p13 K (s 2) (s 3) (s 33) (s 34) w) : Tr (s19_p13_den K s w) :=
  tr_loop (G := fun N' s w => s19_p12_den K N' s w) (F := s19_p13_F K) (sel := fun s => [s 2, s 3, s 33, s 34]) (s := s) (w := w) (p := s19_p13 K (s 2) (s 3) (s 33) (s 34) w) (q := s19_p13_den K s w) (fun B s w h => s19_p12_ok K B s w @h) (by kernel_rfl) (by kernel_rfl) @h
def s19_p14 (K : Value → World → Prop) (t0 t1 : Value) (w : World) : Prop :=
  nw 43 (t0).cells (fun t2 w =>
  nw 43 (t1).cells (fun t3 w =>
  fd 0 t2 (fun t7 w =>
  ld1 t7 (fun t8 w =>
  un .not t8 (fun t9 w =>
  gd t9 false (fd 0 t3) (fun t11 w =>
  gd t9 false (ld1 t11) (fun t12 w =>
  gd t9 false (un .not t12) (fun t13 w =>
  pk t9 (.bool true) t13 (fun t14 w =>
  gd t14 false (fd 1 t2) (fun t16 w =>
  gd t14 false (ld1 t16) (fun t17 w =>
  gd t14 false (fd 1 t3) (fun t18 w =>
  gd t14 false (ld1 t18) (fun t19 w =>
  gd t14 false (boI .neq t17 t19) (fun t20 w =>
  pk t14 (.bool true) t20 (fun t21 w =>
  gd t21 false (fd 3 t2) (fun t23 w =>
  gd t21 false (ld1 t23) (fun t24 w =>
  gd t21 false (lnS t24) (fun t25 w =>
  gd t21 false (fd 3 t3) (fun t26 w =>
  gd t21 false (ld1 t26) (fun t27 w =>
  gd t21 false (lnS t27) (fun t28 w =>
  gd t21 false (boI .neq t25 t28) (fun t29 w =>
  pk t21 (.bool true) t29 (fun t30 w =>
  ifb t30
  (K (.bool false) w)
  (fd 3 t2 (fun t31 w =>
  ld1 t31 (fun t32 w =>
  lnS t32 (fun t33 w =>
  s19_p13 K t2 t3 t33 (.int .i64 0) w) w) w) w)) w) w) w) w) w) w) w) w) w) w) w) w) w) w) w) w) w) w) w) w) w) w) w
def s19_p14_den (K : Value → World → Prop) : (Nat → Value) → World → Prop := denL Try.prog [(cd (Try.f19.body.getD .skip) [0]), (cd (Try.f19.body.getD .skip) [1, 0, 0]), (cd (Try.f19.body.getD .skip) [1, 0, 1]), (cd (Try.f19.body.getD .skip) [1, 1, 0, 0])] (s19_p13_den K) (fun i => (fun _ _ => False)) (s19_R K)
theorem s19_p14_ok (K : Value → World → Prop) (s : Nat → Value) (w : World) (h : s19_p14 K (s 0) (s 1) w) : Tr (s19_p14_den K s w) :=
  tr_simple (P := Try.prog) (codes := [(cd (Try.f19.body.getD .skip) [0]), (cd (Try.f19.body.getD .skip) [1, 0, 0]), (cd (Try.f19.body.getD .skip) [1, 0, 1]), (cd (Try.f19.body.getD .skip) [1, 1, 0, 0])]) (N := (fun s w => s19_p13 K (s 2) (s 3) (s 33) (s 34) w)) (N' := (s19_p13_den K)) (X := (fun i => (fun _ _ => False))) (X' := (fun i => (fun _ _ => False))) (R := s19_R K) (s := s) (w := w) (p := s19_p14 K (s 0) (s 1) w) (q := s19_p14_den K s w) (fun s w h => s19_p13_ok K s w @h) (fun i => tr_id) (by kernel_rfl) (by kernel_rfl) @h
/-- the call, from the text -/
theorem c19 (t0 t1 : Value) {K : Value → World → Prop} {w : World} (h : s19_p14 K t0 t1 w) : cl Try.prog 19 #[t0, t1] K w :=
  calls_of_tr (c := (Try.f19.body.getD .skip)) (fn := Try.f19) (q := s19_p14_den K (st0 #[t0, t1]) w) Try.func19 (by kernel_rfl) (by kernel_rfl) (Nat.le_of_ble_eq_true (by kernel_rfl)) (by kernel_rfl) (by kernel_rfl) (s19_p14_ok K (st0 #[t0, t1]) w @h)

/-! ### function 20 : e2e.slotslaw.look -/
def s20_R (K : Value → World → Prop) (s : Nat → Value) (w : World) : Prop := retv Try.prog s Try.f20.results.toList (fun vs => K (pack vs) w) w
def s20_p1 (K : Value → World → Prop) (t2 t3 : Value) (w : World) : Prop :=
  ldn 4 t3 (fun t84 w =>
  stn 4 t2 t84 (fun w =>
  ldn 4 t2 (fun r0 _ =>
  K r0 w) w) w) w
def s20_p1_den (K : Value → World → Prop) : (Nat → Value) → World → Prop := denL Try.prog [(cd (Try.f20.body.getD .skip) [1, 1, 1, 0]), (cd (Try.f20.body.getD .skip) [1, 1, 1, 1])] (fun _ _ => False) (fun i => (fun _ _ => False)) (s20_R K)
theorem s20_p1_ok (K : Value → World → Prop) (s : Nat → Value) (w : World) (h : s20_p1 K (s 2) (s 3) w) : Tr (s20_p1_den K s w) :=
  tr_simple (P := Try.prog) (codes := [(cd (Try.f20.body.getD .skip) [1, 1, 1, 0]), (cd (Try.f20.body.getD .skip) [1, 1, 1, 1])]) (N := (fun _ _ => False)) (N' := (fun _ _ => False)) (X := (fun i => (fun _ _ => False))) (X' := (fun i => (fun _ _ => False))) (R := s20_R K) (s := s) (w := w) (p := s20_p1 K (s 2) (s 3) w) (q := s20_p1_den K s w) tr_id (fun i => tr_id) (by kernel_rfl) (by kernel_rfl) @h
def s20_p2 (K : Value → World → Prop) (B1 : List Value → World → Prop) (t0 t2 t3 t17 t18 : Value) (w : World) : Prop :=
  boI .add t18 (.int .i64 1) (fun t83 w =>
  B1 [t0, t2, t3, t17, t83] w) w
def s20_p2_den (K : Value → World → Prop) (M1 : (Nat → Value) → World → Prop) : (Nat → Value) → World → Prop := denL Try.prog [(cd (Try.f20.body.getD .skip) [1, 1, 0, 1, 0, 0, 1, 1, 1])] M1 (fun i => (bif Nat.beq i 0 then (s20_p1_den K) else (fun _ _ => False))) (s20_R K)
theorem s20_p2_ok (K : Value → World → Prop) (B1 : List Value → World → Prop) (s : Nat → Value) (w : World) (h : s20_p2 K B1 (s 0) (s 2) (s 3) (s 17) (s 18) w) : Tr (s20_p2_den K (fun s w => B1 [s 0, s 2, s 3, s 17, s 18] w) s w) :=
  tr_simple (P := Try.prog) (codes := [(cd (Try.f20.body.getD .skip) [1, 1, 0, 1, 0, 0, 1, 1, 1])]) (N := (fun s w => B1 [s 0, s 2, s 3, s 17, s 18] w)) (N' := (fun s w => B1 [s 0, s 2, s 3, s 17, s 18] w)) (X := (fun i => (bif Nat.beq i 0 then (fun s w => s20_p1 K (s 2) (s 3) w) else (fun _ _ => False)))) (X' := (fun i => (bif Nat.beq i 0 then (s20_p1_den K) else (fun _ _ => False)))) (R := s20_R K) (s := s) (w := w) (p := s20_p2 K B1 (s 0) (s 2) (s 3) (s 17) (s 18) w) (q := s20_p2_den K (fun s w => B1 [s 0, s 2, s 3, s 17, s 18] w) s w) tr_id (fun i => (tr_bif (fun s w h => s20_p1_ok K s w @h) tr_id)) (by kernel_rfl) (by kernel_rfl) @h
def s20_p3 (K : Value → World → Prop) (B1 : List Value → World → Prop) (t0 t2 t3 t5 t8 t17 t18 : Value) (w : World) : Prop :=
  fd 2 t3 (fun t71 w =>
  ld1 t71 (fun t72 w =>
  bsq 3 [(.int .i64 0)] 1 [(some (0, 1), t5)] (fun t74 w =>
  apq 3 [(.int .i64 0)] 8 t72 t74 (fun t75 w =>
  fd 2 t3 (fun t76 w =>
  st1 t76 t75 (fun w =>
  fd 3 t3 (fun t77 w =>
  ld1 t77 (fun t78 w =>
  bsq 67 [(.slice none 0 0)] 1 [(some (0, 1), t8)] (fun t80 w =>
  apq 67 [(.slice none 0 0)] 24 t78 t80 (fun t81 w =>
  fd 3 t3 (fun t82 w =>
  st1 t82 t81 (fun w =>
  s20_p2 K B1 t0 t2 t3 t17 t18 w) w) w) w) w) w) w) w) w) w) w) w) w
def s20_p3_den (K : Value → World → Prop) (M1 : (Nat → Value) → World → Prop) : (Nat → Value) → World → Prop := denL Try.prog [(cd (Try.f20.body.getD .skip) [1, 1, 0, 1, 0, 0, 1, 1, 0, 0, 1, 1, 1, 1, 1, 0]), (cd (Try.f20.body.getD .skip) [1, 1, 0, 1, 0, 0, 1, 1, 0, 0, 1, 1, 1, 1, 1, 1])] (s20_p2_den K M1) (fun i => (bif Nat.beq i 1 then (s20_p2_den K M1) else (bif Nat.beq i 0 then (s20_p1_den K) else (fun _ _ => False)))) (s20_R K)
theorem s20_p3_ok (K : Value → World → Prop) (B1 : List Value → World → Prop) (s : Nat → Value) (w : World) (h : s20_p3 K B1 (s 0) (s 2) (s 3) (s 5) (s 8) (s 17) (s 18) w) : Tr (s20_p3_den K (fun s w => B1 [s 0, s 2, s 3, s 17, s 18] w) s w) :=
  tr_simple (P := Try.prog) (codes := [(cd (Try.f20.body.getD .skip) [1, 1, 0, 1, 0, 0, 1, 1, 0, 0, 1, 1, 1, 1, 1, 0]), (cd (Try.f20.body.getD .skip) [1, 1, 0, 1, 0, 0, 1, 1, 0, 0, 1, 1, 1, 1, 1, 1])]) (N := (fun s w => s20_p2 K B1 (s 0) (s 2) (s 3) (s 17) (s 18) w)) (N' := (s20_p2_den K (fun s w => B1 [s 0, s 2, s 3, s 17, s 18] w))) (X := (fun i => (bif Nat.beq i 1 then (fun s w => s20_p2 K B1 (s 0) (s 2) (s 3) (s 17) (s 18) w) else (bif Nat.beq i 0 then (fun s w => s20_p1 K (s 2) (s 3) w) else (fun _ _ => False))))) (X' := (fun i => (bif Nat.beq i 1 then (s20_p2_den K (fun s w => B1 [s 0, s 2, s 3, s 17, s 18] w)) else (bif Nat.beq i 0 then (s20_p1_den K) else (fun _ _ => False))))) (R := s20_R K) (s := s) (w := w) (p := s20_p3 K B1 (s 0) (s 2) (s 3) (s 5) (s 8) (s 17) (s 18) w) (q := s20_p3_den K (fun s w => B1 [s 0, s 2, s 3, s 17, s 18] w) s w) (fun s w h => s20_p2_ok K B1 s w @h) (fun i => (tr_bif (fun s w h => s20_p2_ok K B1 s w @h) (tr_bif (fun s w h => s20_p1_ok K s w @h) tr_id))) (by kernel_rfl) (by kernel_rfl) @h
def s20_p4 (K : Value → World → Prop) (B1 : List Value → World → Prop) (B2 : List Value → World → Prop) (t0 t2 t3 t4 t5 t6 t8 t9 t17 t18 : Value) (w : World) : Prop :=
  boI .add t9 (.int .i64 1) (fun t37 w =>
  B2 [t0, t2, t3, t4, t5, t6, t8, t37, t17, t18] w) w
def s20_p4_den (K : Value → World → Prop) (M1 : (Nat → Value) → World → Prop) (M2 : (Nat → Value) → World → Prop) : (Nat → Value) → World → Prop := denL Try.prog [(cd (Try.f20.body.getD .skip) [1, 1, 0, 1, 0, 0, 1, 1, 0, 0, 1, 1, 1, 1, 0, 1, 0, 0, 1, 1])] M2 (fun i => (bif Nat.beq i 2 then (s20_p3_den K M1) else (bif Nat.beq i 1 then (s20_p2_den K M1) else (bif Nat.beq i 0 then (s20_p1_den K) else (fun _ _ => False))))) (s20_R K)
theorem s20_p4_ok (K : Value → World → Prop) (B1 : List Value → World → Prop) (B2 : List Value → World → Prop) (s : Nat → Value) (w : World) (h : s20_p4 K B1 B2 (s 0) (s 2) (s 3) (s 4) (s 5) (s 6) (s 8) (s 9) (s 17) (s 18) w) : Tr (s20_p4_den K (fun s w => B1 [s 0, s 2, s 3, s 17, s 18] w) (fun s w => B2 [s 0, s 2, s 3, s 4, s 5, s 6, s 8, s 9, s 17, s 18] w) s w) :=
  tr_simple (P := Try.prog) (codes := [(cd (Try.f20.body.getD .skip) [1, 1, 0, 1, 0, 0, 1, 1, 0, 0, 1, 1, 1, 1, 0, 1, 0, 0, 1, 1])]) (N := (fun s w => B2 [s 0, s 2, s 3, s 4, s 5, s 6, s 8, s 9, s 17, s 18] w)) (N' := (fun s w => B2 [s 0, s 2, s 3, s 4, s 5, s 6, s 8, s 9, s 17, s 18] w)) (X := (fun i => (bif Nat.beq i 2 then (fun s w => s20_p3 K B1 (s 0) (s 2) (s 3) (s 5) (s 8) (s 17) (s 18) w) else (bif Nat.beq i 1 then (fun s w => s20_p2 K B1 (s 0) (s 2) (s 3) (s 17) (s 18) w) else (bif Nat.beq i 0 then (fun s w => s20_p1 K (s 2) (s 3) w) else (fun _ _ => False)))))) (X' := (fun i => (bif Nat.beq i 2 then (s20_p3_den K (fun s w => B1 [s 0, s 2, s 3, s 17, s 18] w)) else (bif Nat.beq i 1 then (s20_p2_den K (fun s w => B1 [s 0, s 2, s 3, s 17, s 18] w)) else (bif Nat.beq i 0 then (s20_p1_den K) else (fun _ _ => False)))))) (R := s20_R K) (s := s) (w := w) (p := s20_p4 K B1 B2 (s 0) (s 2) (s 3) (s 4) (s 5) (s 6) (s 8) (s 9) (s 17) (s 18) w) (q := s20_p4_den K (fun s w => B1 [s 0, s 2, s 3, s 17, s 18] w) (fun s w => B2 [s 0, s 2, s 3, s 4, s 5, s 6, s 8, s 9, s 17, s 18] w) s w) tr_id (fun i => (tr_bif (fun s w h => s20_p3_ok K B1 s w @h) (tr_bif (fun s w h => s20_p2_ok K B1 s w @h) (tr_bif (fun s w h => s20_p1_ok K s w @h) tr_id)))) (by kernel_rfl) (by kernel_rfl) @h
def s20_p5 (K : Value → World → Prop) (B1 : List Value → World → Prop) (B2 : List Value → World → Prop) (t0 t2 t3 t4 t5 t6 t8 t9 t10 t17 t18 : Value) (w : World) : Prop :=
  ldn 4 t10 (fun t68 w =>
  bsq 61 [(.int .i64 0), (.int .i64 0), (.int .i64 0), (.int .i64 0)] 1 [(some (0, 4), t68)] (fun t69 w =>
  apq 61 [(.int .i64 0), (.int .i64 0), (.int .i64 0), (.int .i64 0)] 32 t8 t69 (fun t70 w =>
  s20_p4 K B1 B2 t0 t2 t3 t4 t5 t6 t70 t9 t17 t18 w) w) w) w
def s20_p5_den (K : Value → World → Prop) (M1 : (Nat → Value) → World → Prop) (M2 : (Nat → Value) → World → Prop) : (Nat → Value) → World → Prop := denL Try.prog [(cd (Try.f20.body.getD .skip) [1, 1, 0, 1, 0, 0, 1, 1, 0, 0, 1, 1, 1, 1, 0, 1, 0, 0, 1, 0, 0, 1, 1, 1, 1])] (s20_p4_den K M1 M2) (fun i => (bif Nat.beq i 3 then (s20_p4_den K M1 M2) else (bif Nat.beq i 2 then (s20_p3_den K M1) else (bif Nat.beq i 1 then (s20_p2_den K M1) else (bif Nat.beq i 0 then (s20_p1_den K) else (fun _ _ => False)))))) (s20_R K)
theorem s20_p5_ok (K : Value → World → Prop) (B1 : List Value → World → Prop) (B2 : List Value → World → Prop) (s : Nat → Value) (w : World) (h : s20_p5 K B1 B2 (s 0) (s 2) (s 3) (s 4) (s 5) (s 6) (s 8) (s 9) (s 10) (s 17) (s 18) w) : Tr (s20_p5_den K (fun s w => B1 [s 0, s 2, s 3, s 17, s 18] w) (fun s w => B2 [s 0, s 2, s 3, s 4, s 5, s 6, s 8, s 9, s 17, s 18] w) s w) :=
  tr_simple (P := Try.prog) (codes := [(cd (Try.f20.body.getD .skip) [1, 1, 0, 1, 0, 0, 1, 1, 0, 0, 1, 1, 1, 1, 0, 1, 0, 0, 1, 0, 0, 1, 1, 1, 1])]) (N := (fun s w => s20_p4 K B1 B2 (s 0) (s 2) (s 3) (s 4) (s 5) (s 6) (s 8) (s 9) (s 17) (s 18) w)) (N' := (s20_p4_den K (fun s w => B1 [s 0, s 2, s 3, s 17, s 18] w) (fun s w => B2 [s 0, s 2, s 3, s 4, s 5, s 6, s 8, s 9, s 17, s 18] w))) (X := (fun i => (bif Nat.beq i 3 then (fun s w => s20_p4 K B1 B2 (s 0) (s 2) (s 3) (s 4) (s 5) (s 6) (s 8) (s 9) (s 17) (s 18) w) else (bif Nat.beq i 2 then (fun s w => s20_p3 K B1 (s 0) (s 2) (s 3) (s 5) (s 8) (s 17) (s 18) w) else (bif Nat.beq i 1 then (fun s w => s20_p2 K B1 (s 0) (s 2) (s 3) (s 17) (s 18) w) else (bif Nat.beq i 0 then (fun s w => s20_p1 K (s 2) (s 3) w) else (fun _ _ => False))))))) (X' := (fun i => (bif Nat.beq i 3 then (s20_p4_den K (fun s w => B1 [s 0, s 2, s 3, s 17, s 18] w) (fun s w => B2 [s 0, s 2, s 3, s 4, s 5, s 6, s 8, s 9, s 17, s 18] w)) else (bif Nat.beq i 2 then (s20_p3_den K (fun s w => B1 [s 0, s 2, s 3, s 17, s 18] w)) else (bif Nat.beq i 1 then (s20_p2_den K (fun s w => B1 [s 0, s 2, s 3, s 17, s 18] w)) else (bif Nat.beq i 0 then (s20_p1_den K) else (fun _ _ => False))))))) (R := s20_R K) (s := s) (w := w) (p := s20_p5 K B1 B2 (s 0) (s 2) (s 3) (s 4) (s 5) (s 6) (s 8) (s 9) (s 10) (s 17) (s 18) w) (q := s20_p5_den K (fun s w => B1 [s 0, s 2, s 3, s 17, s 18] w) (fun s w => B2 [s 0, s 2, s 3, s 4, s 5, s 6, s 8, s 9, s 17, s 18] w) s w) (fun s w h => s20_p4_ok K B1 B2 s w @h) (fun i => (tr_bif (fun s w h => s20_p4_ok K B1 B2 s w @h) (tr_bif (fun s w h => s20_p3_ok K B1 s w @h) (tr_bif (fun s w h => s20_p2_ok K B1 s w @h) (tr_bif (fun s w h => s20_p1_ok K s w @h) tr_id))))) (by kernel_rfl) (by kernel_rfl) @h
def s20_p6 (K : Value → World → Prop) (B1 : List Value → World → Prop) (B2 : List Value → World → Prop) (B3 : List Value → World → Prop) (t0 t2 t3 t4 t5 t6 t8 t9 t10 t17 t18 t49 : Value) (w : World) : Prop :=
  boI .add t49 (.int .i64 1) (fun t66 w =>
  B3 [t0, t2, t3, t4, t5, t6, t8, t9, t10, t17, t18, t66] w) w
def s20_p6_den (K : Value → World → Prop) (M1 : (Nat → Value) → World → Prop) (M2 : (Nat → Value) → World → Prop) (M3 : (Nat → Value) → World → Prop) : (Nat → Value) → World → Prop := denL Try.prog [(cd (Try.f20.body.getD .skip) [1, 1, 0, 1, 0, 0, 1, 1, 0, 0, 1, 1, 1, 1, 0, 1, 0, 0, 1, 0, 0, 1, 1, 1, 0, 1, 0, 0, 1, 1, 1])] M3 (fun i => (bif Nat.beq i 4 then (s20_p5_den K M1 M2) else (bif Nat.beq i 3 then (s20_p4_den K M1 M2) else (bif Nat.beq i 2 then (s20_p3_den K M1) else (bif Nat.beq i 1 then (s20_p2_den K M1) else (bif Nat.beq i 0 then (s20_p1_den K) else (fun _ _ => False))))))) (s20_R K)
theorem s20_p6_ok (K : Value → World → Prop) (B1 : List Value → World → Prop) (B2 : List Value → World → Prop) (B3 : List Value → World → Prop) (s : Nat → Value) (w : World) (h : s20_p6 K B1 B2 B3 (s 0) (s 2) (s 3) (s 4) (s 5) (s 6) (s 8) (s 9) (s 10) (s 17) (s 18) (s 49) w) : Tr (s20_p6_den K (fun s w => B1 [s 0, s 2, s 3, s 17, s 18] w) (fun s w => B2 [s 0, s 2, s 3, s 4, s 5, s 6, s 8, s 9, s 17, s 18] w) (fun s w => B3 [s 0, s 2, s 3, s 4, s 5, s 6, s 8, s 9, s 10, s 17, s 18, s 49] w) s w) :=
  tr_simple (P := Try.prog) (codes := [(cd (Try.f20.body.getD .skip) [1, 1, 0, 1, 0, 0, 1, 1, 0, 0, 1, 1, 1, 1, 0, 1, 0, 0, 1, 0, 0, 1, 1, 1, 0, 1, 0, 0, 1, 1, 1])]) (N := (fun s w => B3 [s 0, s 2, s 3, s 4, s 5, s 6, s 8, s 9, s 10, s 17, s 18, s 49] w)) (N' := (fun s w => B3 [s 0, s 2, s 3, s 4, s 5, s 6, s 8, s 9, s 10, s 17, s 18, s 49] w)) (X := (fun i => (bif Nat.beq i 4 then (fun s w => s20_p5 K B1 B2 (s 0) (s 2) (s 3) (s 4) (s 5) (s 6) (s 8) (s 9) (s 10) (s 17) (s 18) w) else (bif Nat.beq i 3 then (fun s w => s20_p4 K B1 B2 (s 0) (s 2) (s 3) (s 4) (s 5) (s 6) (s 8) (s 9) (s 17) (s 18) w) else (bif Nat.beq i 2 then (fun s w => s20_p3 K B1 (s 0) (s 2) (s 3) (s 5) (s 8) (s 17) (s 18) w) else (bif Nat.beq i 1 then (fun s w => s20_p2 K B1 (s 0) (s 2) (s 3) (s 17) (s 18) w) else (bif Nat.beq i 0 then (fun s w => s20_p1 K (s 2) (s 3) w) else (fun _ _ => False)))))))) (X' := (fun i => (bif Nat.beq i 4 then (s20_p5_den K (fun s w => B1 [s 0, s 2, s 3, s 17, s 18] w) (fun s w => B2 [s 0, s 2, s 3, s 4, s 5, s 6, s 8, s 9, s 17, s 18] w)) else (bif Nat.beq i 3 then (s20_p4_den K (fun s w => B1 [s 0, s 2, s 3, s 17, s 18] w) (fun s w => B2 [s 0, s 2, s 3, s 4, s 5, s 6, s 8, s 9, s 17, s 18] w)) else (bif Nat.beq i 2 then (s20_p3_den K (fun s w => B1 [s 0, s 2, s 3, s 17, s 18] w)) else (bif Nat.beq i 1 then (s20_p2_den K (fun s w => B1 [s 0, s 2, s 3, s 17, s 18] w)) else (bif Nat.beq i 0 then (s20_p1_den K) else (fun _ _ => False)))))))) (R := s20_R K) (s := s) (w := w) (p := s20_p6 K B1 B2 B3 (s 0) (s 2) (s 3) (s 4) (s 5) (s 6) (s 8) (s 9) (s 10) (s 17) (s 18) (s 49) w) (q := s20_p6_den K (fun s w => B1 [s 0, s 2, s 3, s 17, s 18] w) (fun s w => B2 [s 0, s 2, s 3, s 4, s 5, s 6, s 8, s 9, s 17, s 18] w) (fun s w => B3 [s 0, s 2, s 3, s 4, s 5, s 6, s 8, s 9, s 10, s 17, s 18, s 49] w) s w) tr_id (fun i => (tr_bif (fun s w h => s20_p5_ok K B1 B2 s w @h) (tr_bif (fun s w h => s20_p4_ok K B1 B2 s w @h) (tr_bif (fun s w h => s20_p3_ok K B1 s w @h) (tr_bif (fun s w h => s20_p2_ok K B1 s w @h) (tr_bif (fun s w h => s20_p1_ok K s w @h) tr_id)))))) (by kernel_rfl) (by kernel_rfl) @h
def s20_p7 (K : Value → World → Prop) (B1 : List Value → World → Prop) (B2 : List Value → World → Prop) (B3 : List Value → World → Prop) (t0 t2 t3 t4 t5 t6 t8 t9 t10 t17 t18 t49 : Value) (w : World) : Prop :=
  boI .lss t49 (.int .i64 3) (fun t50 w =>
  ifb t50
  (cl Try.prog 51 #[t0, t4, t9, t49] (fun t58 w =>
  exq t58 0 (fun t59 w =>
  exq t58 1 (fun t60 w =>
  fd 1 t10 (fun t61 w =>
  ixa 3 1 t61 t49 (fun t62 w =>
  st1 t62 t59 (fun w =>
  boF true .neq t60 .nilIface (fun t64 w =>
  ifb t64
  (fd 0 t3 (fun t65 w =>
  st1 t65 (.bool false) (fun w =>
  s20_p6 K B1 B2 B3 t0 t2 t3 t4 t5 t6 t8 t9 t10 t17 t18 t49 w) w) w)
  (s20_p6 K B1 B2 B3 t0 t2 t3 t4 t5 t6 t8 t9 t10 t17 t18 t49 w)) w) w) w) w) w) w) w)
  (s20_p5 K B1 B2 t0 t2 t3 t4 t5 t6 t8 t9 t10 t17 t18 w)) w
def s20_p7_den (K : Value → World → Prop) (M1 : (Nat → Value) → World → Prop) (M2 : (Nat → Value) → World → Prop) (M3 : (Nat → Value) → World → Prop) : (Nat → Value) → World → Prop := denL Try.prog [(cd (Try.f20.body.getD .skip) [1, 1, 0, 1, 0, 0, 1, 1, 0, 0, 1, 1, 1, 1, 0, 1, 0, 0, 1, 0, 0, 1, 1, 1, 0, 1, 0, 0, 0]), (cd (Try.f20.body.getD .skip) [1, 1, 0, 1, 0, 0, 1, 1, 0, 0, 1, 1, 1, 1, 0, 1, 0, 0, 1, 0, 0, 1, 1, 1, 0, 1, 0, 0, 1, 0]), (cd (Try.f20.body.getD .skip) [1, 1, 0, 1, 0, 0, 1, 1, 0, 0, 1, 1, 1, 1, 0, 1, 0, 0, 1, 0, 0, 1, 1, 1, 0, 1, 0, 0, 1, 1, 0])] (s20_p6_den K M1 M2 M3) (fun i => (bif Nat.beq i 4 then (s20_p5_den K M1 M2) else (bif Nat.beq i 3 then (s20_p4_den K M1 M2) else (bif Nat.beq i 2 then (s20_p3_den K M1) else (bif Nat.beq i 1 then (s20_p2_den K M1) else (bif Nat.beq i 0 then (s20_p1_den K) else (fun _ _ => False))))))) (s20_R K)
theorem s20_p7_ok (K : Value → World → Prop) (B1 : List Value → World → Prop) (B2 : List Value → World → Prop) (B3 : List Value → World → Prop) (s : Nat → Value) (w : World) (h : s20_p7 K B1 B2 B3 (s 0) (s 2) (s 3) (s 4) (s 5) (s 6) (s 8) (s 9) (s 10) (s 17) (s 18) (s 49) w) : Tr (s20_p7_den K (fun s w => B1 [s 0, s 2, s 3, s 17, s 18] w) (fun s w => B2 [s 0, s 2, s 3, s 4, s 5, s 6, s 8, s 9, s 17, s 18] w) (fun s w => B3 [s 0, s 2, s 3, s 4, s 5, s 6, s 8, s 9, s 10, s 17, s 18, s 49] w) s w) :=
  tr_simple (P := Try.prog) (codes := [(cd (Try.f20.body.getD .skip) [1, 1, 0, 1, 0, 0, 1, 1, 0, 0, 1, 1, 1, 1, 0, 1, 0, 0, 1, 0, 0, 1, 1, 1, 0, 1, 0, 0, 0]), (cd (Try.f20.body.getD .skip) [1, 1, 0, 1, 0, 0, 1, 1, 0, 0, 1, 1, 1, 1, 0, 1, 0, 0, 1, 0, 0, 1, 1, 1, 0, 1, 0, 0, 1, 0]), (cd (Try.f20.body.getD .skip) [1, 1, 0, 1, 0, 0, 1, 1, 0, 0, 1, 1, 1, 1, 0, 1, 0, 0, 1, 0, 0, 1, 1, 1, 0, 1, 0, 0, 1, 1, 0])]) (N := (fun s w => s20_p6 K B1 B2 B3 (s 0) (s 2) (s 3) (s 4) (s 5) (s 6) (s 8) (s 9) (s 10) (s 17) (s 18) (s 49) w)) (N' := (s20_p6_den K (fun s w => B1 [s 0, s 2, s 3, s 17, s 18] w) (fun s w => B2 [s 0, s 2, s 3, s 4, s 5, s 6, s 8, s 9, s 17, s 18] w) (fun s w => B3 [s 0, s 2, s 3, s 4, s 5, s 6, s 8, s 9, s 10, s 17, s 18, s 49] w))) (X := (fun i => (bif Nat.beq i 4 then (fun s w => s20_p5 K B1 B2 (s 0) (s 2) (s 3) (s 4) (s 5) (s 6) (s 8) (s 9) (s 10) (s 17) (s 18) w) else (bif Nat.beq i 3 then (fun s w => s20_p4 K B1 B2 (s 0) (s 2) (s 3) (s 4) (s 5) (s 6) (s 8) (s 9) (s 17) (s 18) w) else (bif Nat.beq i 2 then (fun s w => s20_p3 K B1 (s 0) (s 2) (s 3) (s 5) (s 8) (s 17) (s 18) w) else (bif Nat.beq i 1 then (fun s w => s20_p2 K B1 (s 0) (s 2) (s 3) (s 17) (s 18) w) else (bif Nat.beq i 0 then (fun s w => s20_p1 K (s 2) (s 3) w) else (fun _ _ => False)))))))) (X' := (fun i => (bif Nat.beq i 4 then (s20_p5_den K (fun s w => B1 [s 0, s 2, s 3, s 17, s 18] w) (fun s w => B2 [s 0, s 2, s 3, s 4, s 5, s 6, s 8, s 9, s 17, s 18] w)) else (bif Nat.beq i 3 then (s20_p4_den K (fun s w => B1 [s 0, s 2, s 3, s 17, s 18] w) (fun s w => B2 [s 0, s 2, s 3, s 4, s 5, s 6, s 8, s 9, s 17, s 18] w)) else (bif Nat.beq i 2 then (s20_p3_den K (fun s w => B1 [s 0, s 2, s 3, s 17, s 18] w)) else (bif Nat.beq i 1 then (s20_p2_den K (fun s w => B1 [s 0, s 2, s 3, s 17, s 18] w)) else (bif Nat.beq i 0 then (s20_p1_den K) else (fun _ _ => False)))))))) (R := s20_R K) (s := s) (w := w) (p := s20_p7 K B1 B2 B3 (s 0) (s 2) (s 3) (s 4) (s 5) (s 6) (s 8) (s 9) (s 10) (s 17) (s 18) (s 49) w) (q := s20_p7_den K (fun s w => B1 [s 0, s 2, s 3, s 17, s 18] w) (fun s w => B2 [s 0, s 2, s 3, s 4, s 5, s 6, s 8, s 9, s 17, s 18] w) (fun s w => B3 [s 0, s 2, s 3, s 4, s 5, s 6, s 8, s 9, s 10, s 17, s 18, s 49] w) s w) (fun s w h => s20_p6_ok K B1 B2 B3 s w @h) (fun i => (tr_bif (fun s w h => s20_p5_ok K B1 B2 s w @h) (tr_bif (fun s w h => s20_p4_ok K B1 B2 s w @h) (tr_bif (fun s w h => s20_p3_ok K B1 s w @h) (tr_bif (fun s w h => s20_p2_ok K B1 s w @h) (tr_bif (fun s w h => s20_p1_ok K s w @h) tr_id)))))) (by kernel_rfl) (by kernel_rfl) @h
def s20_p8_F (K : Value → World → Prop) (B1 : List Value → World → Prop) (B2 : List Value → World → Prop) (B3 : List Value → World → Prop) (l : List Value) (w : World) : Prop :=
  match l with
  | [t0, t2, t3, t4, t5, t6, t8, t9, t10, t17, t18, t49] => s20_p7 K B1 B2 B3 t0 t2 t3 t4 t5 t6 t8 t9 t10 t17 t18 t49 w
  | _ => False
theorem s20_p8_Fe {K : Value → World → Prop} {B1 : List Value → World → Prop} {B2 : List Value → World → Prop} {B3 : List Value → World → Prop} {t0 t2 t3 t4 t5 t6 t8 t9 t10 t17 t18 t49 : Value} {w : World} : s20_p8_F K B1 B2 B3 [t0, t2, t3, t4, t5, t6, t8, t9, t10, t17, t18, t49] w = s20_p7 K B1 B2 B3 t0 t2 t3 t4 t5 t6 t8 t9 t10 t17 t18 t49 w := by kernel_rfl
def s20_p8 (K : Value → World → Prop) (B1 : List Value → World → Prop) (B2 : List Value → World → Prop) (t0 t2 t3 t4 t5 t6 t8 t9 t10 t17 t18 t49 : Value) (w : World) : Prop :=
  LoopL (s20_p8_F K B1 B2) [t0, t2, t3, t4, t5, t6, t8, t9, t10, t17, t18, t49] w
def s20_p8_den (K : Value → World → Prop) (M1 : (Nat → Value) → World → Prop) (M2 : (Nat → Value) → World → Prop) : (Nat → Value) → World → Prop := fun s w => LoopP (fun M3 s w => s20_p7_den K M1 M2 M3 s w) s w
theorem s20_p8_ok (K : Value → World → Prop) (B1 : List Value → World → Prop) (B2 : List Value → World → Prop) (s : Nat → Value) (w : World) (h : s20_p8 K B1 B2 (s 0) (s 2) (s 3) (s 4) (s 5) (s 6) (s 8) (s 9) (s 10) (s 17) (s 18) (s 49) w) : Tr (s20_p8_den K (fun s w => B1 [s 0, s 2, s 3, s 17, s 18] w) (fun s w => B2 [s 0, s 2, s 3, s 4, s 5, s 6, s 8, s 9, s 17, s 18] w) s w) :=
  tr_loop (G := fun N' s w => s20_p7_den K (fun s w => B1 [s 0, s 2, s 3, s 17, s 18] w) (fun s w => B2 [s 0, s 2, s 3, s 4, s 5, s 6, s 8, s 9, s 17, s 18] w) N' s w) (F := s20_p8_F K B1 B2) (sel := fun s => [s 0, s 2, s 3, s 4, s 5, s 6, s 8, s 9, s 10, s 17, s 18, s 49]) (s := s) (w := w) (p := s20_p8 K B1 B2 (s 0) (s 2) (s 3) (s 4) (s 5) (s 6) (s 8) (s 9) (s 10) (s 17) (s 18) (s 49) w) (q := s20_p8_den K (fun s w => B1 [s 0, s 2, s 3, s 17, s 18] w) (fun s w => B2 [s 0, s 2, s 3, s 4, s 5, s 6, s 8, s 9, s 17, s 18] w) s w) (fun B s w h => s20_p7_ok K B1 B2 B s w @h) (by kernel_rfl) (by kernel_rfl) @h
def s20_p9 (K : Value → World → Prop) (B1 : List Value → World → Prop) (B2 : List Value → World → Prop) (t0 t2 t3 t4 t5 t6 t8 t9 t10 t17 t18 : Value) (w : World) : Prop :=
  s20_p8 K B1 B2 t0 t2 t3 t4 t5 t6 t8 t9 t10 t17 t18 (.int .i64 0) w
def s20_p9_den (K : Value → World → Prop) (M1 : (Nat → Value) → World → Prop) (M2 : (Nat → Value) → World → Prop) : (Nat → Value) → World → Prop := denL Try.prog [(cd (Try.f20.body.getD .skip) [1, 1, 0, 1, 0, 0, 1, 1, 0, 0, 1, 1, 1, 1, 0, 1, 0, 0, 1, 0, 0, 1, 1, 1, 0, 0])] (s20_p8_den K M1 M2) (fun i => (bif Nat.beq i 3 then (s20_p4_den K M1 M2) else (bif Nat.beq i 2 then (s20_p3_den K M1) else (bif Nat.beq i 1 then (s20_p2_den K M1) else (bif Nat.beq i 0 then (s20_p1_den K) else (fun _ _ => False)))))) (s20_R K)
theorem s20_p9_ok (K : Value → World → Prop) (B1 : List Value → World → Prop) (B2 : List Value → World → Prop) (s : Nat → Value) (w : World) (h : s20_p9 K B1 B2 (s 0) (s 2) (s 3) (s 4) (s 5) (s 6) (s 8) (s 9) (s 10) (s 17) (s 18) w) : Tr (s20_p9_den K (fun s w => B1 [s 0, s 2, s 3, s 17, s 18] w) (fun s w => B2 [s 0, s 2, s 3, s 4, s 5, s 6, s 8, s 9, s 17, s 18] w) s w) :=
  tr_simple (P := Try.prog) (codes := [(cd (Try.f20.body.getD .skip) [1, 1, 0, 1, 0, 0, 1, 1, 0, 0, 1, 1, 1, 1, 0, 1, 0, 0, 1, 0, 0, 1, 1, 1, 0, 0])]) (N := (fun s w => s20_p8 K B1 B2 (s 0) (s 2) (s 3) (s 4) (s 5) (s 6) (s 8) (s 9) (s 10) (s 17) (s 18) (s 49) w)) (N' := (s20_p8_den K (fun s w => B1 [s 0, s 2, s 3, s 17, s 18] w) (fun s w => B2 [s 0, s 2, s 3, s 4, s 5, s 6, s 8, s 9, s 17, s 18] w))) (X := (fun i => (bif Nat.beq i 3 then (fun s w => s20_p4 K B1 B2 (s 0) (s 2) (s 3) (s 4) (s 5) (s 6) (s 8) (s 9) (s 17) (s 18) w) else (bif Nat.beq i 2 then (fun s w => s20_p3 K B1 (s 0) (s 2) (s 3) (s 5) (s 8) (s 17) (s 18) w) else (bif Nat.beq i 1 then (fun s w => s20_p2 K B1 (s 0) (s 2) (s 3) (s 17) (s 18) w) else (bif Nat.beq i 0 then (fun s w => s20_p1 K (s 2) (s 3) w) else (fun _ _ => False))))))) (X' := (fun i => (bif Nat.beq i 3 then (s20_p4_den K (fun s w => B1 [s 0, s 2, s 3, s 17, s 18] w) (fun s w => B2 [s 0, s 2, s 3, s 4, s 5, s 6, s 8, s 9, s 17, s 18] w)) else (bif Nat.beq i 2 then (s20_p3_den K (fun s w => B1 [s 0, s 2, s 3, s 17, s 18] w)) else (bif Nat.beq i 1 then (s20_p2_den K (fun s w => B1 [s 0, s 2, s 3, s 17, s 18] w)) else (bif Nat.beq i 0 then (s20_p1_den K) else (fun _ _ => False))))))) (R := s20_R K) (s := s) (w := w) (p := s20_p9 K B1 B2 (s 0) (s 2) (s 3) (s 4) (s 5) (s 6) (s 8) (s 9) (s 10) (s 17) (s 18) w) (q := s20_p9_den K (fun s w => B1 [s 0, s 2, s 3, s 17, s 18] w) (fun s w => B2 [s 0, s 2, s 3, s 4, s 5, s 6, s 8, s 9, s 17, s 18] w) s w) (fun s w h => s20_p8_ok K B1 B2 s w @h) (fun i => (tr_bif (fun s w h => s20_p4_ok K B1 B2 s w @h) (tr_bif (fun s w h => s20_p3_ok K B1 s w @h) (tr_bif (fun s w h => s20_p2_ok K B1 s w @h) (tr_bif (fun s w h => s20_p1_ok K s w @h) tr_id))))) (by kernel_rfl) (by kernel_rfl) @h
def s20_p10 (K : Value → World → Prop) (B1 : List Value → World → Prop) (B2 : List Value → World → Prop) (t0 t2 t3 t4 t5 t6 t8 t9 t17 t18 : Value) (w : World) : Prop :=
  nw 61 #[(.int .i64 0), (.int .i64 0), (.int .i64 0), (.int .i64 0)] (fun t10 w =>
  cl Try.prog 23 #[t0, t4, t9] (fun t42 w =>
  exq t42 0 (fun t43 w =>
  exq t42 1 (fun t44 w =>
  fd 0 t10 (fun t45 w =>
  st1 t45 t43 (fun w =>
  boF true .neq t44 .nilIface (fun t47 w =>
  ifb t47
  (fd 0 t3 (fun t48 w =>
  st1 t48 (.bool false) (fun w =>
  s20_p9 K B1 B2 t0 t2 t3 t4 t5 t6 t8 t9 t10 t17 t18 w) w) w)
  (s20_p9 K B1 B2 t0 t2 t3 t4 t5 t6 t8 t9 t10 t17 t18 w)) w) w) w) w) w) w) w
def s20_p10_den (K : Value → World → Prop) (M1 : (Nat → Value) → World → Prop) (M2 : (Nat → Value) → World → Prop) : (Nat → Value) → World → Prop := denL Try.prog [(cd (Try.f20.body.getD .skip) [1, 1, 0, 1, 0, 0, 1, 1, 0, 0, 1, 1, 1, 1, 0, 1, 0, 0, 1, 0, 0, 0]), (cd (Try.f20.body.getD .skip) [1, 1, 0, 1, 0, 0, 1, 1, 0, 0, 1, 1, 1, 1, 0, 1, 0, 0, 1, 0, 0, 1, 0]), (cd (Try.f20.body.getD .skip) [1, 1, 0, 1, 0, 0, 1, 1, 0, 0, 1, 1, 1, 1, 0, 1, 0, 0, 1, 0, 0, 1, 1, 0, 0]), (cd (Try.f20.body.getD .skip) [1, 1, 0, 1, 0, 0, 1, 1, 0, 0, 1, 1, 1, 1, 0, 1, 0, 0, 1, 0, 0, 1, 1, 0, 1])] (s20_p9_den K M1 M2) (fun i => (bif Nat.beq i 3 then (s20_p4_den K M1 M2) else (bif Nat.beq i 2 then (s20_p3_den K M1) else (bif Nat.beq i 1 then (s20_p2_den K M1) else (bif Nat.beq i 0 then (s20_p1_den K) else (fun _ _ => False)))))) (s20_R K)
theorem s20_p10_ok (K : Value → World → Prop) (B1 : List Value → World → Prop) (B2 : List Value → World → Prop) (s : Nat → Value) (w : World) (h : s20_p10 K B1 B2 (s 0) (s 2) (s 3) (s 4) (s 5) (s 6) (s 8) (s 9) (s 17) (s 18) w) : Tr (s20_p10_den K (fun s w => B1 [s 0, s 2, s 3, s 17, s 18] w) (fun s w => B2 [s 0, s 2, s 3, s 4, s 5, s 6, s 8, s 9, s 17, s 18] w) s w) :=
  tr_simple (P := Try.prog) (codes := [(cd (Try.f20.body.getD .skip) [1, 1, 0, 1, 0, 0, 1, 1, 0, 0, 1, 1, 1, 1, 0, 1, 0, 0, 1, 0, 0, 0]), (cd (Try.f20.body.getD .skip) [1, 1, 0, 1, 0, 0, 1, 1, 0, 0, 1, 1, 1, 1, 0, 1, 0, 0, 1, 0, 0, 1, 0]), (cd (Try.f20.body.getD .skip) [1, 1, 0, 1, 0, 0, 1, 1, 0, 0, 1, 1, 1, 1, 0, 1, 0, 0, 1, 0, 0, 1, 1, 0, 0]), (cd (Try.f20.body.getD .skip) [1, 1, 0, 1, 0, 0, 1, 1, 0, 0, 1, 1, 1, 1, 0, 1, 0, 0, 1, 0, 0, 1, 1, 0, 1])]) (N := (fun s w => s20_p9 K B1 B2 (s 0) (s 2) (s 3) (s 4) (s 5) (s 6) (s 8) (s 9) (s 10) (s 17) (s 18) w)) (N' := (s20_p9_den K (fun s w => B1 [s 0, s 2, s 3, s 17, s 18] w) (fun s w => B2 [s 0, s 2, s 3, s 4, s 5, s 6, s 8, s 9, s 17, s 18] w))) (X := (fun i => (bif Nat.beq i 3 then (fun s w => s20_p4 K B1 B2 (s 0) (s 2) (s 3) (s 4) (s 5) (s 6) (s 8) (s 9) (s 17) (s 18) w) else (bif Nat.beq i 2 then (fun s w => s20_p3 K B1 (s 0) (s 2) (s 3) (s 5) (s 8) (s 17) (s 18) w) else (bif Nat.beq i 1 then (fun s w => s20_p2 K B1 (s 0) (s 2) (s 3) (s 17) (s 18) w) else (bif Nat.beq i 0 then (fun s w => s20_p1 K (s 2) (s 3) w) else (fun _ _ => False))))))) (X' := (fun i => (bif Nat.beq i 3 then (s20_p4_den K (fun s w => B1 [s 0, s 2, s 3, s 17, s 18] w) (fun s w => B2 [s 0, s 2, s 3, s 4, s 5, s 6, s 8, s 9, s 17, s 18] w)) else (bif Nat.beq i 2 then (s20_p3_den K (fun s w => B1 [s 0, s 2, s 3, s 17, s 18] w)) else (bif Nat.beq i 1 then (s20_p2_den K (fun s w => B1 [s 0, s 2, s 3, s 17, s 18] w)) else (bif Nat.beq i 0 then (s20_p1_den K) else (fun _ _ => False))))))) (R := s20_R K) (s := s) (w := w) (p := s20_p10 K B1 B2 (s 0) (s 2) (s 3) (s 4) (s 5) (s 6) (s 8) (s 9) (s 17) (s 18) w) (q := s20_p10_den K (fun s w => B1 [s 0, s 2, s 3, s 17, s 18] w) (fun s w => B2 [s 0, s 2, s 3, s 4, s 5, s 6, s 8, s 9, s 17, s 18] w) s w) (fun s w h => s20_p9_ok K B1 B2 s w @h) (fun i => (tr_bif (fun s w h => s20_p4_ok K B1 B2 s w @h) (tr_bif (fun s w h => s20_p3_ok K B1 s w @h) (tr_bif (fun s w h => s20_p2_ok K B1 s w @h) (tr_bif (fun s w h => s20_p1_ok K s w @h) tr_id))))) (by kernel_rfl) (by kernel_rfl) @h
def s20_p11 (K : Value → World → Prop) (B1 : List Value → World → Prop) (B2 : List Value → World → Prop) (t0 t2 t3 t4 t5 t6 t8 t9 t17 t18 : Value) (w : World) : Prop :=
  boI .leq t9 t6 (fun t35 w =>
  ifb t35
  (s20_p10 K B1 B2 t0 t2 t3 t4 t5 t6 t8 t9 t17 t18 w)
  (s20_p3 K B1 t0 t2 t3 t5 t8 t17 t18 w)) w
def s20_p11_den (K : Value → World → Prop) (M1 : (Nat → Value) → World → Prop) (M2 : (Nat → Value) → World → Prop) : (Nat → Value) → World → Prop := denL Try.prog [(cd (Try.f20.body.getD .skip) [1, 1, 0, 1, 0, 0, 1, 1, 0, 0, 1, 1, 1, 1, 0, 1, 0, 0, 0, 0]), (cd (Try.f20.body.getD .skip) [1, 1, 0, 1, 0, 0, 1, 1, 0, 0, 1, 1, 1, 1, 0, 1, 0, 0, 0, 1])] (s20_p10_den K M1 M2) (fun i => (bif Nat.beq i 2 then (s20_p3_den K M1) else (bif Nat.beq i 1 then (s20_p2_den K M1) else (bif Nat.beq i 0 then (s20_p1_den K) else (fun _ _ => False))))) (s20_R K)
theorem s20_p11_ok (K : Value → World → Prop) (B1 : List Value → World → Prop) (B2 : List Value → World → Prop) (s : Nat → Value) (w : World) (h : s20_p11 K B1 B2 (s 0) (s 2) (s 3) (s 4) (s 5) (s 6) (s 8) (s 9) (s 17) (s 18) w) : Tr (s20_p11_den K (fun s w => B1 [s 0, s 2, s 3, s 17, s 18] w) (fun s w => B2 [s 0, s 2, s 3, s 4, s 5, s 6, s 8, s 9, s 17, s 18] w) s w) :=
  tr_simple (P := Try.prog) (codes := [(cd (Try.f20.body.getD .skip) [1, 1, 0, 1, 0, 0, 1, 1, 0, 0, 1, 1, 1, 1, 0, 1, 0, 0, 0, 0]), (cd (Try.f20.body.getD .skip) [1, 1, 0, 1, 0, 0, 1, 1, 0, 0, 1, 1, 1, 1, 0, 1, 0, 0, 0, 1])]) (N := (fun s w => s20_p10 K B1 B2 (s 0) (s 2) (s 3) (s 4) (s 5) (s 6) (s 8) (s 9) (s 17) (s 18) w)) (N' := (s20_p10_den K (fun s w => B1 [s 0, s 2, s 3, s 17, s 18] w) (fun s w => B2 [s 0, s 2, s 3, s 4, s 5, s 6, s 8, s 9, s 17, s 18] w))) (X := (fun i => (bif Nat.beq i 2 then (fun s w => s20_p3 K B1 (s 0) (s 2) (s 3) (s 5) (s 8) (s 17) (s 18) w) else (bif Nat.beq i 1 then (fun s w => s20_p2 K B1 (s 0) (s 2) (s 3) (s 17) (s 18) w) else (bif Nat.beq i 0 then (fun s w => s20_p1 K (s 2) (s 3) w) else (fun _ _ => False)))))) (X' := (fun i => (bif Nat.beq i 2 then (s20_p3_den K (fun s w => B1 [s 0, s 2, s 3, s 17, s 18] w)) else (bif Nat.beq i 1 then (s20_p2_den K (fun s w => B1 [s 0, s 2, s 3, s 17, s 18] w)) else (bif Nat.beq i 0 then (s20_p1_den K) else (fun _ _ => False)))))) (R := s20_R K) (s := s) (w := w) (p := s20_p11 K B1 B2 (s 0) (s 2) (s 3) (s 4) (s 5) (s 6) (s 8) (s 9) (s 17) (s 18) w) (q := s20_p11_den K (fun s w => B1 [s 0, s 2, s 3, s 17, s 18] w) (fun s w => B2 [s 0, s 2, s 3, s 4, s 5, s 6, s 8, s 9, s 17, s 18] w) s w) (fun s w h => s20_p10_ok K B1 B2 s w @h) (fun i => (tr_bif (fun s w h => s20_p3_ok K B1 s w @h) (tr_bif (fun s w h => s20_p2_ok K B1 s w @h) (tr_bif (fun s w h => s20_p1_ok K s w @h) tr_id)))) (by kernel_rfl) (by kernel_rfl) @h
def s20_p12_F (K : Value → World → Prop) (B1 : List Value → World → Prop) (B2 : List Value → World → Prop) (l : List Value) (w : World) : Prop :=
  match l with
  | [t0, t2, t3, t4, t5, t6, t8, t9, t17, t18] => s20_p11 K B1 B2 t0 t2 t3 t4 t5 t6 t8 t9 t17 t18 w
  | _ => False
theorem s20_p12_Fe {K : Value → World → Prop} {B1 : List Value → World → Prop} {B2 : List Value → World → Prop} {t0 t2 t3 t4 t5 t6 t8 t9 t17 t18 : Value} {w : World} : s20_p12_F K B1 B2 [t0, t2, t3, t4, t5, t6, t8, t9, t17, t18] w = s20_p11 K B1 B2 t0 t2 t3 t4 t5 t6 t8 t9 t17 t18 w := by kernel_rfl
def s20_p12 (K : Value → World → Prop) (B1 : List Value → World → Prop) (t0 t2 t3 t4 t5 t6 t8 t9 t17 t18 : Value) (w : World) : Prop :=
  LoopL (s20_p12_F K B1) [t0, t2, t3, t4, t5, t6, t8, t9, t17, t18] w
def s20_p12_den (K : Value → World → Prop) (M1 : (Nat → Value) → World → Prop) : (Nat → Value) → World → Prop := fun s w => LoopP (fun M2 s w => s20_p11_den K M1 M2 s w) s w
theorem s20_p12_ok (K : Value → World → Prop) (B1 : List Value → World → Prop) (s : Nat → Value) (w : World) (h : s20_p12 K B1 (s 0) (s 2) (s 3) (s 4) (s 5) (s 6) (s 8) (s 9) (s 17) (s 18) w) : Tr (s20_p12_den K (fun s w => B1 [s 0, s 2, s 3, s 17, s 18] w) s w) :=
  tr_loop (G := fun N' s w => s20_p11_den K (fun s w => B1 [s 0, s 2, s 3, s 17, s 18] w) N' s w) (F := s20_p12_F K B1) (sel := fun s => [s 0, s 2, s 3, s 4, s 5, s 6, s 8, s 9, s 17, s 18]) (s := s) (w := w) (p := s20_p12 K B1 (s 0) (s 2) (s 3) (s 4) (s 5) (s 6) (s 8) (s 9) (s 17) (s 18) w) (q := s20_p12_den K (fun s w => B1 [s 0, s 2, s 3, s 17, s 18] w) s w) (fun B s w h => s20_p11_ok K B1 B s w @h) (by kernel_rfl) (by kernel_rfl) @h
def s20_p13 (K : Value → World → Prop) (B1 : List Value → World → Prop) (t0 t2 t3 t4 t5 t6 t17 t18 : Value) (w : World) : Prop :=
  bsq 61 [(.int .i64 0), (.int .i64 0), (.int .i64 0), (.int .i64 0)] 0 [] (fun t31 w =>
  s20_p12 K B1 t0 t2 t3 t4 t5 t6 t31 t5 t17 t18 w) w
def s20_p13_den (K : Value → World → Prop) (M1 : (Nat → Value) → World → Prop) : (Nat → Value) → World → Prop := denL Try.prog [(cd (Try.f20.body.getD .skip) [1, 1, 0, 1, 0, 0, 1, 1, 0, 0, 1, 1, 1, 0]), (cd (Try.f20.body.getD .skip) [1, 1, 0, 1, 0, 0, 1, 1, 0, 0, 1, 1, 1, 1, 0, 0])] (s20_p12_den K M1) (fun i => (bif Nat.beq i 1 then (s20_p2_den K M1) else (bif Nat.beq i 0 then (s20_p1_den K) else (fun _ _ => False)))) (s20_R K)
theorem s20_p13_ok (K : Value → World → Prop) (B1 : List Value → World → Prop) (s : Nat → Value) (w : World) (h : s20_p13 K B1 (s 0) (s 2) (s 3) (s 4) (s 5) (s 6) (s 17) (s 18) w) : Tr (s20_p13_den K (fun s w => B1 [s 0, s 2, s 3, s 17, s 18] w) s w) :=
  tr_simple (P := Try.prog) (codes := [(cd (Try.f20.body.getD .skip) [1, 1, 0, 1, 0, 0, 1, 1, 0, 0, 1, 1, 1, 0]), (cd (Try.f20.body.getD .skip) [1, 1, 0, 1, 0, 0, 1, 1, 0, 0, 1, 1, 1, 1, 0, 0])]) (N := (fun s w => s20_p12 K B1 (s 0) (s 2) (s 3) (s 4) (s 5) (s 6) (s 8) (s 9) (s 17) (s 18) w)) (N' := (s20_p12_den K (fun s w => B1 [s 0, s 2, s 3, s 17, s 18] w))) (X := (fun i => (bif Nat.beq i 1 then (fun s w => s20_p2 K B1 (s 0) (s 2) (s 3) (s 17) (s 18) w) else (bif Nat.beq i 0 then (fun s w => s20_p1 K (s 2) (s 3) w) else (fun _ _ => False))))) (X' := (fun i => (bif Nat.beq i 1 then (s20_p2_den K (fun s w => B1 [s 0, s 2, s 3, s 17, s 18] w)) else (bif Nat.beq i 0 then (s20_p1_den K) else (fun _ _ => False))))) (R := s20_R K) (s := s) (w := w) (p := s20_p13 K B1 (s 0) (s 2) (s 3) (s 4) (s 5) (s 6) (s 17) (s 18) w) (q := s20_p13_den K (fun s w => B1 [s 0, s 2, s 3, s 17, s 18] w) s w) (fun s w h => s20_p12_ok K B1 s w @h) (fun i => (tr_bif (fun s w h => s20_p2_ok K B1 s w @h) (tr_bif (fun s w h => s20_p1_ok K s w @h) tr_id))) (by kernel_rfl) (by kernel_rfl) @h
def s20_p14 (K : Value → World → Prop) (B1 : List Value → World → Prop) (t0 t2 t3 t17 t18 : Value) (w : World) : Prop :=
  cl Try.prog 22 #[t0, t18] (fun t24 w =>
  exq t24 0 (fun t25 w =>
  exq t24 1 (fun t26 w =>
  exq t24 2 (fun t27 w =>
  boF true .neq t27 .nilIface (fun t29 w =>
  ifb t29
  (fd 0 t3 (fun t30 w =>
  st1 t30 (.bool false) (fun w =>
  s20_p13 K B1 t0 t2 t3 t18 t25 t26 t17 t18 w) w) w)
  (s20_p13 K B1 t0 t2 t3 t18 t25 t26 t17 t18 w)) w) w) w) w) w
def s20_p14_den (K : Value → World → Prop) (M1 : (Nat → Value) → World → Prop) : (Nat → Value) → World → Prop := denL Try.prog [(cd (Try.f20.body.getD .skip) [1, 1, 0, 1, 0, 0, 1, 1, 0, 0, 0]), (cd (Try.f20.body.getD .skip) [1, 1, 0, 1, 0, 0, 1, 1, 0, 0, 1, 0]), (cd (Try.f20.body.getD .skip) [1, 1, 0, 1, 0, 0, 1, 1, 0, 0, 1, 1, 0, 0]), (cd (Try.f20.body.getD .skip) [1, 1, 0, 1, 0, 0, 1, 1, 0, 0, 1, 1, 0, 1])] (s20_p13_den K M1) (fun i => (bif Nat.beq i 1 then (s20_p2_den K M1) else (bif Nat.beq i 0 then (s20_p1_den K) else (fun _ _ => False)))) (s20_R K)
theorem s20_p14_ok (K : Value → World → Prop) (B1 : List Value → World → Prop) (s : Nat → Value) (w : World) (h : s20_p14 K B1 (s 0) (s 2) (s 3) (s 17) (s 18) w) : Tr (s20_p14_den K (fun s w => B1 [s 0, s 2, s 3, s 17, s 18] w) s w) :=
  tr_simple (P := Try.prog) (codes := [(cd (Try.f20.body.getD .skip) [1, 1, 0, 1, 0, 0, 1, 1, 0, 0, 0]), (cd (Try.f20.body.getD .skip) [1, 1, 0, 1, 0, 0, 1, 1, 0, 0, 1, 0]), (cd (Try.f20.body.getD .skip) [1, 1, 0, 1, 0, 0, 1, 1, 0, 0, 1, 1, 0, 0]), (cd (Try.f20.body.getD .skip) [1, 1, 0, 1, 0, 0, 1, 1, 0, 0, 1, 1, 0, 1])]) (N := (fun s w => s20_p13 K B1 (s 0) (s 2) (s 3) (s 4) (s 5) (s 6) (s 17) (s 18) w)) (N' := (s20_p13_den K (fun s w => B1 [s 0, s 2, s 3, s 17, s 18] w))) (X := (fun i => (bif Nat.beq i 1 then (fun s w => s20_p2 K B1 (s 0) (s 2) (s 3) (s 17) (s 18) w) else (bif Nat.beq i 0 then (fun s w => s20_p1 K (s 2) (s 3) w) else (fun _ _ => False))))) (X' := (fun i => (bif Nat.beq i 1 then (s20_p2_den K (fun s w => B1 [s 0, s 2, s 3, s 17, s 18] w)) else (bif Nat.beq i 0 then (s20_p1_den K) else (fun _ _ => False))))) (R := s20_R K) (s := s) (w := w) (p := s20_p14 K B1 (s 0) (s 2) (s 3) (s 17) (s 18) w) (q := s20_p14_den K (fun s w => B1 [s 0, s 2, s 3, s 17, s 18] w) s w) (fun s w h => s20_p13_ok K B1 s w @h) (fun i => (tr_bif (fun s w h => s20_p2_ok K B1 s w @h) (tr_bif (fun s w h => s20_p1_ok K s w @h) tr_id))) (by kernel_rfl) (by kernel_rfl) @h
def s20_p15 (K : Value → World → Prop) (B1 : List Value → World → Prop) (t0 t2 t3 t17 t18 : Value) (w : World) : Prop :=
  boI .lss t18 t17 (fun t19 w =>
  ifb t19
  (s20_p14 K B1 t0 t2 t3 t17 t18 w)
  (s20_p1 K t2 t3 w)) w
def s20_p15_den (K : Value → World → Prop) (M1 : (Nat → Value) → World → Prop) : (Nat → Value) → World → Prop := denL Try.prog [(cd (Try.f20.body.getD .skip) [1, 1, 0, 1, 0, 0, 0]), (cd (Try.f20.body.getD .skip) [1, 1, 0, 1, 0, 0, 1, 0])] (s20_p14_den K M1) (fun i => (bif Nat.beq i 0 then (s20_p1_den K) else (fun _ _ => False))) (s20_R K)
theorem s20_p15_ok (K : Value → World → Prop) (B1 : List Value → World → Prop) (s : Nat → Value) (w : World) (h : s20_p15 K B1 (s 0) (s 2) (s 3) (s 17) (s 18) w) : Tr (s20_p15_den K (fun s w => B1 [s 0, s 2, s 3, s 17, s 18] w) s w) :=
  tr_simple (P := Try.prog) (codes := [(cd (Try.f20.body.getD .skip) [1, 1, 0, 1, 0, 0, 0]), (cd (Try.f20.body.getD .skip) [1, 1, 0, 1, 0, 0, 1, 0])]) (N := (fun s w => s20_p14 K B1 (s 0) (s 2) (s 3) (s 17) (s 18) w)) (N' := (s20_p14_den K (fun s w => B1 [s 0, s 2, s 3, s 17, s 18] w))) (X := (fun i => (bif Nat.beq i 0 then (fun s w => s20_p1 K (s 2) (s 3) w) else (fun _ _ => False)))) (X' := (fun i => (bif Nat.beq i 0 then (s20_p1_den K) else (fun _ _ => False)))) (R := s20_R K) (s := s) (w := w) (p := s20_p15 K B1 (s 0) (s 2) (s 3) (s 17) (s 18) w) (q := s20_p15_den K (fun s w => B1 [s 0, s 2, s 3, s 17, s 18] w) s w) (fun s w h => s20_p14_ok K B1 s w @h) (fun i => (tr_bif (fun s w h => s20_p1_ok K s w @h) tr_id)) (by kernel_rfl) (by kernel_rfl) @h
def s20_p16_F (K : Value → World → Prop) (B1 : List Value → World → Prop) (l : List Value) (w : World) : Prop :=
  match l with
  | [t0, t2, t3, t17, t18] => s20_p15 K B1 t0 t2 t3 t17 t18 w
  | _ => False
theorem s20_p16_Fe {K : Value → World → Prop} {B1 : List Value → World → Prop} {t0 t2 t3 t17 t18 : Value} {w : World} : s20_p16_F K B1 [t0, t2, t3, t17, t18] w = s20_p15 K B1 t0 t2 t3 t17 t18 w := by kernel_rfl
def s20_p16 (K : Value → World → Prop) (t0 t2 t3 t17 t18 : Value) (w : World) : Prop :=
  LoopL (s20_p16_F K) [t0, t2, t3, t17, t18] w
def s20_p16_den (K : Value → World → Prop) : (Nat → Value) → World → Prop := fun s w => LoopP (fun M1 s w => s20_p15_den K M1 s w) s w
theorem s20_p16_ok (K : Value → World → Prop) (s : Nat → Value) (w : World) (h : s20_p16 K (s 0) (s 2) (s 3) (s 17) (s 18) w) : Tr (s20_p16_den K s w) :=
  tr_loop (G := fun N' s w => s20_p15_den K N' s w) (F := s20_p16_F K) (sel := fun s => [s 0, s 2, s 3, s 17, s 18]) (s := s) (w := w) (p := s20_p16 K (s 0) (s 2) (s 3) (s 17) (s 18) w) (q := s20_p16_den K s w) (fun B s w h => s20_p15_ok K B s w @h) (by kernel_rfl) (by kernel_rfl) @h
def s20_p17 (K : Value → World → Prop) (t0 : Value) (w : World) : Prop :=
  nw 43 #[(.bool false), (.int .i64 0), (.slice none 0 0), (.slice none 0 0)] (fun t2 w =>
  cl Try.prog 31 #[t0] (fun t13 w =>
  bdq [(.bool false), (.int .i64 0), (.slice none 0 0), (.slice none 0 0)] [(some (0, 1), (.bool true)), (some (1, 1), t13)] (fun t14 w =>
  nw 43 #[(.bool false), (.int .i64 0), (.slice none 0 0), (.slice none 0 0)] (fun t3 w =>
  stn 4 t3 t14 (fun w =>
  cl Try.prog 16 #[] (fun t15 w =>
  fi Try.prog 30 t15 2 (fun t16 w =>
  lnS t16 (fun t17 w =>
  s20_p16 K t0 t2 t3 t17 (.int .i64 0) w) w) w) w) w) w) w) w) w
def s20_p17_den (K : Value → World → Prop) : (Nat → Value) → World → Prop := denL Try.prog [(cd (Try.f20.body.getD .skip) [0]), (cd (Try.f20.body.getD .skip) [1, 0]), (cd (Try.f20.body.getD .skip) [1, 1, 0, 0])] (s20_p16_den K) (fun i => (fun _ _ => False)) (s20_R K)
theorem s20_p17_ok (K : Value → World → Prop) (s : Nat → Value) (w : World) (h : s20_p17 K (s 0) w) : Tr (s20_p17_den K s w) :=
  tr_simple (P := Try.prog) (codes := [(cd (Try.f20.body.getD .skip) [0]), (cd (Try.f20.body.getD .skip) [1, 0]), (cd (Try.f20.body.getD .skip) [1, 1, 0, 0])]) (N := (fun s w => s20_p16 K (s 0) (s 2) (s 3) (s 17) (s 18) w)) (N' := (s20_p16_den K)) (X := (fun i => (fun _ _ => False))) (X' := (fun i => (fun _ _ => False))) (R := s20_R K) (s := s) (w := w) (p := s20_p17 K (s 0) w) (q := s20_p17_den K s w) (fun s w h => s20_p16_ok K s w @h) (fun i => tr_id) (by kernel_rfl) (by kernel_rfl) @h
/-- the call, from the text -/
theorem c20 (t0 : Value) {K : Value → World → Prop} {w : World} (h : s20_p17 K t0 w) : cl Try.prog 20 #[t0] K w :=
  calls_of_tr (c := (Try.f20.body.getD .skip)) (fn := Try.f20) (q := s20_p17_den K (st0 #[t0]) w) Try.func20 (by kernel_rfl) (by kernel_rfl) (Nat.le_of_ble_eq_true (by kernel_rfl)) (by kernel_rfl) (by kernel_rfl) (s20_p17_ok K (st0 #[t0]) w @h)

/-! ### function 21 : e2e.slotslaw.lookModel -/
def s21_R (K : Value → World → Prop) (s : Nat → Value) (w : World) : Prop := retv Try.prog s Try.f21.results.toList (fun vs => K (pack vs) w) w
def s21_p1 (K : Value → World → Prop) (t2 t3 : Value) (w : World) : Prop :=
  ldn 4 t3 (fun t77 w =>
  stn 4 t2 t77 (fun w =>
  ldn 4 t2 (fun r0 _ =>
  K r0 w) w) w) w
def s21_p1_den (K : Value → World → Prop) : (Nat → Value) → World → Prop := denL Try.prog [(cd (Try.f21.body.getD .skip) [1, 1, 1, 0]), (cd (Try.f21.body.getD .skip) [1, 1, 1, 1])] (fun _ _ => False) (fun i => (fun _ _ => False)) (s21_R K)
theorem s21_p1_ok (K : Value → World → Prop) (s : Nat → Value) (w : World) (h : s21_p1 K (s 2) (s 3) w) : Tr (s21_p1_den K s w) :=
  tr_simple (P := Try.prog) (codes := [(cd (Try.f21.body.getD .skip) [1, 1, 1, 0]), (cd (Try.f21.body.getD .skip) [1, 1, 1, 1])]) (N := (fun _ _ => False)) (N' := (fun _ _ => False)) (X := (fun i => (fun _ _ => False))) (X' := (fun i => (fun _ _ => False))) (R := s21_R K) (s := s) (w := w) (p := s21_p1 K (s 2) (s 3) w) (q := s21_p1_den K s w) tr_id (fun i => tr_id) (by kernel_rfl) (by kernel_rfl) @h
def s21_p2 (K : Value → World → Prop) (B1 : List Value → World → Prop) (t0 t2 t3 t20 t21 t22 : Value) (w : World) : Prop :=
  boI .add t22 (.int .i64 1) (fun t76 w =>
  B1 [t0, t2, t3, t20, t21, t76] w) w
def s21_p2_den (K : Value → World → Prop) (M1 : (Nat → Value) → World → Prop) : (Nat → Value) → World → Prop := denL Try.prog [(cd (Try.f21.body.getD .skip) [1, 1, 0, 1, 0, 0, 1, 1, 1])] M1 (fun i => (bif Nat.beq i 0 then (s21_p1_den K) else (fun _ _ => False))) (s21_R K)
theorem s21_p2_ok (K : Value → World → Prop) (B1 : List Value → World → Prop) (s : Nat → Value) (w : World) (h : s21_p2 K B1 (s 0) (s 2) (s 3) (s 20) (s 21) (s 22) w) : Tr (s21_p2_den K (fun s w => B1 [s 0, s 2, s 3, s 20, s 21, s 22] w) s w) :=
  tr_simple (P := Try.prog) (codes := [(cd (Try.f21.body.getD .skip) [1, 1, 0, 1, 0, 0, 1, 1, 1])]) (N := (fun s w => B1 [s 0, s 2, s 3, s 20, s 21, s 22] w)) (N' := (fun s w => B1 [s 0, s 2, s 3, s 20, s 21, s 22] w)) (X := (fun i => (bif Nat.beq i 0 then (fun s w => s21_p1 K (s 2) (s 3) w) else (fun _ _ => False)))) (X' := (fun i => (bif Nat.beq i 0 then (s21_p1_den K) else (fun _ _ => False)))) (R := s21_R K) (s := s) (w := w) (p := s21_p2 K B1 (s 0) (s 2) (s 3) (s 20) (s 21) (s 22) w) (q := s21_p2_den K (fun s w => B1 [s 0, s 2, s 3, s 20, s 21, s 22] w) s w) tr_id (fun i => (tr_bif (fun s w h => s21_p1_ok K s w @h) tr_id)) (by kernel_rfl) (by kernel_rfl) @h
def s21_p3 (K : Value → World → Prop) (B1 : List Value → World → Prop) (t0 t2 t3 t6 t7 t20 t21 t22 : Value) (w : World) : Prop :=
  fd 2 t3 (fun t64 w =>
  ld1 t64 (fun t65 w =>
  bsq 3 [(.int .i64 0)] 1 [(some (0, 1), t6)] (fun t67 w =>
  apq 3 [(.int .i64 0)] 8 t65 t67 (fun t68 w =>
  fd 2 t3 (fun t69 w =>
  st1 t69 t68 (fun w =>
  fd 3 t3 (fun t70 w =>
  ld1 t70 (fun t71 w =>
  bsq 67 [(.slice none 0 0)] 1 [(some (0, 1), t7)] (fun t73 w =>
  apq 67 [(.slice none 0 0)] 24 t71 t73 (fun t74 w =>
  fd 3 t3 (fun t75 w =>
  st1 t75 t74 (fun w =>
  s21_p2 K B1 t0 t2 t3 t20 t21 t22 w) w) w) w) w) w) w) w) w) w) w) w) w
def s21_p3_den (K : Value → World → Prop) (M1 : (Nat → Value) → World → Prop) : (Nat → Value) → World → Prop := denL Try.prog [(cd (Try.f21.body.getD .skip) [1, 1, 0, 1, 0, 0, 1, 1, 0, 0, 1, 1, 1, 1, 0]), (cd (Try.f21.body.getD .skip) [1, 1, 0, 1, 0, 0, 1, 1, 0, 0, 1, 1, 1, 1, 1])] (s21_p2_den K M1) (fun i => (bif Nat.beq i 1 then (s21_p2_den K M1) else (bif Nat.beq i 0 then (s21_p1_den K) else (fun _ _ => False)))) (s21_R K)
theorem s21_p3_ok (K : Value → World → Prop) (B1 : List Value → World → Prop) (s : Nat → Value) (w : World) (h : s21_p3 K B1 (s 0) (s 2) (s 3) (s 6) (s 7) (s 20) (s 21) (s 22) w) : Tr (s21_p3_den K (fun s w => B1 [s 0, s 2, s 3, s 20, s 21, s 22] w) s w) :=
  tr_simple (P := Try.prog) (codes := [(cd (Try.f21.body.getD .skip) [1, 1, 0, 1, 0, 0, 1, 1, 0, 0, 1, 1, 1, 1, 0]), (cd (Try.f21.body.getD .skip) [1, 1, 0, 1, 0, 0, 1, 1, 0, 0, 1, 1, 1, 1, 1])]) (N := (fun s w => s21_p2 K B1 (s 0) (s 2) (s 3) (s 20) (s 21) (s 22) w)) (N' := (s21_p2_den K (fun s w => B1 [s 0, s 2, s 3, s 20, s 21, s 22] w))) (X := (fun i => (bif Nat.beq i 1 then (fun s w => s21_p2 K B1 (s 0) (s 2) (s 3) (s 20) (s 21) (s 22) w) else (bif Nat.beq i 0 then (fun s w => s21_p1 K (s 2) (s 3) w) else (fun _ _ => False))))) (X' := (fun i => (bif Nat.beq i 1 then (s21_p2_den K (fun s w => B1 [s 0, s 2, s 3, s 20, s 21, s 22] w)) else (bif Nat.beq i 0 then (s21_p1_den K) else (fun _ _ => False))))) (R := s21_R K) (s := s) (w := w) (p := s21_p3 K B1 (s 0) (s 2) (s 3) (s 6) (s 7) (s 20) (s 21) (s 22) w) (q := s21_p3_den K (fun s w => B1 [s 0, s 2, s 3, s 20, s 21, s 22] w) s w) (fun s w h => s21_p2_ok K B1 s w @h) (fun i => (tr_bif (fun s w h => s21_p2_ok K B1 s w @h) (tr_bif (fun s w h => s21_p1_ok K s w @h) tr_id))) (by kernel_rfl) (by kernel_rfl) @h
def s21_p4 (K : Value → World → Prop) (B1 : List Value → World → Prop) (B2 : List Value → World → Prop) (t0 t2 t3 t4 t6 t7 t8 t20 t21 t22 : Value) (w : World) : Prop :=
  boI .add t8 (.int .i64 1) (fun t42 w =>
  B2 [t0, t2, t3, t4, t6, t7, t42, t20, t21, t22] w) w
def s21_p4_den (K : Value → World → Prop) (M1 : (Nat → Value) → World → Prop) (M2 : (Nat → Value) → World → Prop) : (Nat → Value) → World → Prop := denL Try.prog [(cd (Try.f21.body.getD .skip) [1, 1, 0, 1, 0, 0, 1, 1, 0, 0, 1, 1, 1, 0, 1, 0, 0, 1, 1])] M2 (fun i => (bif Nat.beq i 2 then (s21_p3_den K M1) else (bif Nat.beq i 1 then (s21_p2_den K M1) else (bif Nat.beq i 0 then (s21_p1_den K) else (fun _ _ => False))))) (s21_R K)
theorem s21_p4_ok (K : Value → World → Prop) (B1 : List Value → World → Prop) (B2 : List Value → World → Prop) (s : Nat → Value) (w : World) (h : s21_p4 K B1 B2 (s 0) (s 2) (s 3) (s 4) (s 6) (s 7) (s 8) (s 20) (s 21) (s 22) w) : Tr (s21_p4_den K (fun s w => B1 [s 0, s 2, s 3, s 20, s 21, s 22] w) (fun s w => B2 [s 0, s 2, s 3, s 4, s 6, s 7, s 8, s 20, s 21, s 22] w) s w) :=
  tr_simple (P := Try.prog) (codes := [(cd (Try.f21.body.getD .skip) [1, 1, 0, 1, 0, 0, 1, 1, 0, 0, 1, 1, 1, 0, 1, 0, 0, 1, 1])]) (N := (fun s w => B2 [s 0, s 2, s 3, s 4, s 6, s 7, s 8, s 20, s 21, s 22] w)) (N' := (fun s w => B2 [s 0, s 2, s 3, s 4, s 6, s 7, s 8, s 20, s 21, s 22] w)) (X := (fun i => (bif Nat.beq i 2 then (fun s w => s21_p3 K B1 (s 0) (s 2) (s 3) (s 6) (s 7) (s 20) (s 21) (s 22) w) else (bif Nat.beq i 1 then (fun s w => s21_p2 K B1 (s 0) (s 2) (s 3) (s 20) (s 21) (s 22) w) else (bif Nat.beq i 0 then (fun s w => s21_p1 K (s 2) (s 3) w) else (fun _ _ => False)))))) (X' := (fun i => (bif Nat.beq i 2 then (s21_p3_den K (fun s w => B1 [s 0, s 2, s 3, s 20, s 21, s 22] w)) else (bif Nat.beq i 1 then (s21_p2_den K (fun s w => B1 [s 0, s 2, s 3, s 20, s 21, s 22] w)) else (bif Nat.beq i 0 then (s21_p1_den K) else (fun _ _ => False)))))) (R := s21_R K) (s := s) (w := w) (p := s21_p4 K B1 B2 (s 0) (s 2) (s 3) (s 4) (s 6) (s 7) (s 8) (s 20) (s 21) (s 22) w) (q := s21_p4_den K (fun s w => B1 [s 0, s 2, s 3, s 20, s 21, s 22] w) (fun s w => B2 [s 0, s 2, s 3, s 4, s 6, s 7, s 8, s 20, s 21, s 22] w) s w) tr_id (fun i => (tr_bif (fun s w h => s21_p3_ok K B1 s w @h) (tr_bif (fun s w h => s21_p2_ok K B1 s w @h) (tr_bif (fun s w h => s21_p1_ok K s w @h) tr_id)))) (by kernel_rfl) (by kernel_rfl) @h
def s21_p5 (K : Value → World → Prop) (B1 : List Value → World → Prop) (B2 : List Value → World → Prop) (t0 t2 t3 t4 t6 t7 t8 t9 t20 t21 t22 : Value) (w : World) : Prop :=
  ldn 4 t9 (fun t61 w =>
  bsq 61 [(.int .i64 0), (.int .i64 0), (.int .i64 0), (.int .i64 0)] 1 [(some (0, 4), t61)] (fun t62 w =>
  apq 61 [(.int .i64 0), (.int .i64 0), (.int .i64 0), (.int .i64 0)] 32 t7 t62 (fun t63 w =>
  s21_p4 K B1 B2 t0 t2 t3 t4 t6 t63 t8 t20 t21 t22 w) w) w) w
def s21_p5_den (K : Value → World → Prop) (M1 : (Nat → Value) → World → Prop) (M2 : (Nat → Value) → World → Prop) : (Nat → Value) → World → Prop := denL Try.prog [(cd (Try.f21.body.getD .skip) [1, 1, 0, 1, 0, 0, 1, 1, 0, 0, 1, 1, 1, 0, 1, 0, 0, 1, 0, 0, 1, 1])] (s21_p4_den K M1 M2) (fun i => (bif Nat.beq i 3 then (s21_p4_den K M1 M2) else (bif Nat.beq i 2 then (s21_p3_den K M1) else (bif Nat.beq i 1 then (s21_p2_den K M1) else (bif Nat.beq i 0 then (s21_p1_den K) else (fun _ _ => False)))))) (s21_R K)
theorem s21_p5_ok (K : Value → World → Prop) (B1 : List Value → World → Prop) (B2 : List Value → World → Prop) (s : Nat → Value) (w : World) (h : s21_p5 K B1 B2 (s 0) (s 2) (s 3) (s 4) (s 6) (s 7) (s 8) (s 9) (s 20) (s 21) (s 22) w) : Tr (s21_p5_den K (fun s w => B1 [s 0, s 2, s 3, s 20, s 21, s 22] w) (fun s w => B2 [s 0, s 2, s 3, s 4, s 6, s 7, s 8, s 20, s 21, s 22] w) s w) :=
  tr_simple (P := Try.prog) (codes := [(cd (Try.f21.body.getD .skip) [1, 1, 0, 1, 0, 0, 1, 1, 0, 0, 1, 1, 1, 0, 1, 0, 0, 1, 0, 0, 1, 1])]) (N := (fun s w => s21_p4 K B1 B2 (s 0) (s 2) (s 3) (s 4) (s 6) (s 7) (s 8) (s 20) (s 21) (s 22) w)) (N' := (s21_p4_den K (fun s w => B1 [s 0, s 2, s 3, s 20, s 21, s 22] w) (fun s w => B2 [s 0, s 2, s 3, s 4, s 6, s 7, s 8, s 20, s 21, s 22] w))) (X := (fun i => (bif Nat.beq i 3 then (fun s w => s21_p4 K B1 B2 (s 0) (s 2) (s 3) (s 4) (s 6) (s 7) (s 8) (s 20) (s 21) (s 22) w) else (bif Nat.beq i 2 then (fun s w => s21_p3 K B1 (s 0) (s 2) (s 3) (s 6) (s 7) (s 20) (s 21) (s 22) w) else (bif Nat.beq i 1 then (fun s w => s21_p2 K B1 (s 0) (s 2) (s 3) (s 20) (s 21) (s 22) w) else (bif Nat.beq i 0 then (fun s w => s21_p1 K (s 2) (s 3) w) else (fun _ _ => False))))))) (X' := (fun i => (bif Nat.beq i 3 then (s21_p4_den K (fun s w => B1 [s 0, s 2, s 3, s 20, s 21, s 22] w) (fun s w => B2 [s 0, s 2, s 3, s 4, s 6, s 7, s 8, s 20, s 21, s 22] w)) else (bif Nat.beq i 2 then (s21_p3_den K (fun s w => B1 [s 0, s 2, s 3, s 20, s 21, s 22] w)) else (bif Nat.beq i 1 then (s21_p2_den K (fun s w => B1 [s 0, s 2, s 3, s 20, s 21, s 22] w)) else (bif Nat.beq i 0 then (s21_p1_den K) else (fun _ _ => False))))))) (R := s21_R K) (s := s) (w := w) (p := s21_p5 K B1 B2 (s 0) (s 2) (s 3) (s 4) (s 6) (s 7) (s 8) (s 9) (s 20) (s 21) (s 22) w) (q := s21_p5_den K (fun s w => B1 [s 0, s 2, s 3, s 20, s 21, s 22] w) (fun s w => B2 [s 0, s 2, s 3, s 4, s 6, s 7, s 8, s 20, s 21, s 22] w) s w) (fun s w h => s21_p4_ok K B1 B2 s w @h) (fun i => (tr_bif (fun s w h => s21_p4_ok K B1 B2 s w @h) (tr_bif (fun s w h => s21_p3_ok K B1 s w @h) (tr_bif (fun s w h => s21_p2_ok K B1 s w @h) (tr_bif (fun s w h => s21_p1_ok K s w @h) tr_id))))) (by kernel_rfl) (by kernel_rfl) @h
def s21_p6 (K : Value → World → Prop) (B1 : List Value → World → Prop) (B2 : List Value → World → Prop) (B3 : List Value → World → Prop) (t0 t2 t3 t4 t6 t7 t8 t9 t20 t21 t22 t48 : Value) (w : World) : Prop :=
  boI .lss t48 (.int .i64 3) (fun t49 w =>
  ifb t49
  (cl Try.prog 61 #[t0, t4, t8, t48] (fun t56 w =>
  fd 1 t9 (fun t57 w =>
  ixa 3 1 t57 t48 (fun t58 w =>
  st1 t58 t56 (fun w =>
  boI .add t48 (.int .i64 1) (fun t59 w =>
  B3 [t0, t2, t3, t4, t6, t7, t8, t9, t20, t21, t22, t59] w) w) w) w) w) w)
  (s21_p5 K B1 B2 t0 t2 t3 t4 t6 t7 t8 t9 t20 t21 t22 w)) w
def s21_p6_den (K : Value → World → Prop) (M1 : (Nat → Value) → World → Prop) (M2 : (Nat → Value) → World → Prop) (M3 : (Nat → Value) → World → Prop) : (Nat → Value) → World → Prop := denL Try.prog [(cd (Try.f21.body.getD .skip) [1, 1, 0, 1, 0, 0, 1, 1, 0, 0, 1, 1, 1, 0, 1, 0, 0, 1, 0, 0, 1, 0, 1, 0, 0, 0]), (cd (Try.f21.body.getD .skip) [1, 1, 0, 1, 0, 0, 1, 1, 0, 0, 1, 1, 1, 0, 1, 0, 0, 1, 0, 0, 1, 0, 1, 0, 0, 1, 0]), (cd (Try.f21.body.getD .skip) [1, 1, 0, 1, 0, 0, 1, 1, 0, 0, 1, 1, 1, 0, 1, 0, 0, 1, 0, 0, 1, 0, 1, 0, 0, 1, 1, 0]), (cd (Try.f21.body.getD .skip) [1, 1, 0, 1, 0, 0, 1, 1, 0, 0, 1, 1, 1, 0, 1, 0, 0, 1, 0, 0, 1, 0, 1, 0, 0, 1, 1, 1])] M3 (fun i => (bif Nat.beq i 4 then (s21_p5_den K M1 M2) else (bif Nat.beq i 3 then (s21_p4_den K M1 M2) else (bif Nat.beq i 2 then (s21_p3_den K M1) else (bif Nat.beq i 1 then (s21_p2_den K M1) else (bif Nat.beq i 0 then (s21_p1_den K) else (fun _ _ => False))))))) (s21_R K)
theorem s21_p6_ok (K : Value → World → Prop) (B1 : List Value → World → Prop) (B2 : List Value → World → Prop) (B3 : List Value → World → Prop) (s : Nat → Value) (w : World) (h : s21_p6 K B1 B2 B3 (s 0) (s 2) (s 3) (s 4) (s 6) (s 7) (s 8) (s 9) (s 20) (s 21) (s 22) (s 48) w) : Tr (s21_p6_den K (fun s w => B1 [s 0, s 2, s 3, s 20, s 21, s 22] w) (fun s w => B2 [s 0, s 2, s 3, s 4, s 6, s 7, s 8, s 20, s 21, s 22] w) (fun s w => B3 [s 0, s 2, s 3, s 4, s 6, s 7, s 8, s 9, s 20, s 21, s 22, s 48] w) s w) :=
  tr_simple (P := Try.prog) (codes := [(cd (Try.f21.body.getD .skip) [1, 1, 0, 1, 0, 0, 1, 1, 0, 0, 1, 1, 1, 0, 1, 0, 0, 1, 0, 0, 1, 0, 1, 0, 0, 0]), (cd (Try.f21.body.getD .skip) [1, 1, 0, 1, 0, 0, 1, 1, 0, 0, 1, 1, 1, 0, 1, 0, 0, 1, 0, 0, 1, 0, 1, 0, 0, 1, 0]), (cd (Try.f21.body.getD .skip) [1, 1, 0, 1, 0, 0, 1, 1, 0, 0, 1, 1, 1, 0, 1, 0, 0, 1, 0, 0, 1, 0, 1, 0, 0, 1, 1, 0]), (cd (Try.f21.body.getD .skip) [1, 1, 0, 1, 0, 0, 1, 1, 0, 0, 1, 1, 1, 0, 1, 0, 0, 1, 0, 0, 1, 0, 1, 0, 0, 1, 1, 1])]) (N := (fun s w => B3 [s 0, s 2, s 3, s 4, s 6, s 7, s 8, s 9, s 20, s 21, s 22, s 48] w)) (N' := (fun s w => B3 [s 0, s 2, s 3, s 4, s 6, s 7, s 8, s 9, s 20, s 21, s 22, s 48] w)) (X := (fun i => (bif Nat.beq i 4 then (fun s w => s21_p5 K B1 B2 (s 0) (s 2) (s 3) (s 4) (s 6) (s 7) (s 8) (s 9) (s 20) (s 21) (s 22) w) else (bif Nat.beq i 3 then (fun s w => s21_p4 K B1 B2 (s 0) (s 2) (s 3) (s 4) (s 6) (s 7) (s 8) (s 20) (s 21) (s 22) w) else (bif Nat.beq i 2 then (fun s w => s21_p3 K B1 (s 0) (s 2) (s 3) (s 6) (s 7) (s 20) (s 21) (s 22) w) else (bif Nat.beq i 1 then (fun s w => s21_p2 K B1 (s 0) (s 2) (s 3) (s 20) (s 21) (s 22) w) else (bif Nat.beq i 0 then (fun s w => s21_p1 K (s 2) (s 3) w) else (fun _ _ => False)))))))) (X' := (fun i => (bif Nat.beq i 4 then (s21_p5_den K (fun s w => B1 [s 0, s 2, s 3, s 20, s 21, s 22] w) (fun s w => B2 [s 0, s 2, s 3, s 4, s 6, s 7, s 8, s 20, s 21, s 22] w)) else (bif Nat.beq i 3 then (s21_p4_den K (fun s w => B1 [s 0, s 2, s 3, s 20, s 21, s 22] w) (fun s w => B2 [s 0, s 2, s 3, s 4, s 6, s 7, s 8, s 20, s 21, s 22] w)) else (bif Nat.beq i 2 then (s21_p3_den K (fun s w => B1 [s 0, s 2, s 3, s 20, s 21, s 22] w)) else (bif Nat.beq i 1 then (s21_p2_den K (fun s w => B1 [s 0, s 2, s 3, s 20, s 21, s 22] w)) else (bif Nat.beq i 0 then (s21_p1_den K) else (fun _ _ => False)))))))) (R := s21_R K) (s := s) (w := w) (p := s21_p6 K B1 B2 B3 (s 0) (s 2) (s 3) (s 4) (s 6) (s 7) (s 8) (s 9) (s 20) (s 21) (s 22) (s 48) w) (q := s21_p6_den K (fun s w => B1 [s 0, s 2, s 3, s 20, s 21, s 22] w) (fun s w => B2 [s 0, s 2, s 3, s 4, s 6, s 7, s 8, s 20, s 21, s 22] w) (fun s w => B3 [s 0, s 2, s 3, s 4, s 6, s 7, s 8, s 9, s 20, s 21, s 22, s 48] w) s w) tr_id (fun i => (tr_bif (fun s w h => s21_p5_ok K B1 B2 s w @h) (tr_bif (fun s w h => s21_p4_ok K B1 B2 s w @h) (tr_bif (fun s w h => s21_p3_ok K B1 s w @h) (tr_bif (fun s w h => s21_p2_ok K B1 s w @h) (tr_bif (fun s w h => s21_p1_ok K s w @h) tr_id)))))) (by kernel_rfl) (by kernel_rfl) @h
def s21_p7_F (K : Value → World → Prop) (B1 : List Value → World → Prop) (B2 : List Value → World → Prop) (B3 : List Value → World → Prop) (l : List Value) (w : World) : Prop :=
  match l with
  | [t0, t2, t3, t4, t6, t7, t8, t9, t20, t21, t22, t48] => s21_p6 K B1 B2 B3 t0 t2 t3 t4 t6 t7 t8 t9 t20 t21 t22 t48 w
  | _ => False
theorem s21_p7_Fe {K : Value → World → Prop} {B1 : List Value → World → Prop} {B2 : List Value → World → Prop} {B3 : List Value → World → Prop} {t0 t2 t3 t4 t6 t7 t8 t9 t20 t21 t22 t48 : Value} {w : World} : s21_p7_F K B1 B2 B3 [t0, t2, t3, t4, t6, t7, t8, t9, t20, t21, t22, t48] w = s21_p6 K B1 B2 B3 t0 t2 t3 t4 t6 t7 t8 t9 t20 t21 t22 t48 w := by kernel_rfl
def s21_p7 (K : Value → World → Prop) (B1 : List Value → World → Prop) (B2 : List Value → World → Prop) (t0 t2 t3 t4 t6 t7 t8 t9 t20 t21 t22 t48 : Value) (w : World) : Prop :=
  LoopL (s21_p7_F K B1 B2) [t0, t2, t3, t4, t6, t7, t8, t9, t20, t21, t22, t48] w
def s21_p7_den (K : Value → World → Prop) (M1 : (Nat → Value) → World → Prop) (M2 : (Nat → Value) → World → Prop) : (Nat → Value) → World → Prop := fun s w => LoopP (fun M3 s w => s21_p6_den K M1 M2 M3 s w) s w
theorem s21_p7_ok (K : Value → World → Prop) (B1 : List Value → World → Prop) (B2 : List Value → World → Prop) (s : Nat → Value) (w : World) (h : s21_p7 K B1 B2 (s 0) (s 2) (s 3) (s 4) (s 6) (s 7) (s 8) (s 9) (s 20) (s 21) (s 22) (s 48) w) : Tr (s21_p7_den K (fun s w => B1 [s 0, s 2, s 3, s 20, s 21, s 22] w) (fun s w => B2 [s 0, s 2, s 3, s 4, s 6, s 7, s 8, s 20, s 21, s 22] w) s w) :=
  tr_loop (G := fun N' s w => s21_p6_den K (fun s w => B1 [s 0, s 2, s 3, s 20, s 21, s 22] w) (fun s w => B2 [s 0, s 2, s 3, s 4, s 6, s 7, s 8, s 20, s 21, s 22] w) N' s w) (F := s21_p7_F K B1 B2) (sel := fun s => [s 0, s 2, s 3, s 4, s 6, s 7, s 8, s 9, s 20, s 21, s 22, s 48]) (s := s) (w := w) (p := s21_p7 K B1 B2 (s 0) (s 2) (s 3) (s 4) (s 6) (s 7) (s 8) (s 9) (s 20) (s 21) (s 22) (s 48) w) (q := s21_p7_den K (fun s w => B1 [s 0, s 2, s 3, s 20, s 21, s 22] w) (fun s w => B2 [s 0, s 2, s 3, s 4, s 6, s 7, s 8, s 20, s 21, s 22] w) s w) (fun B s w h => s21_p6_ok K B1 B2 B s w @h) (by kernel_rfl) (by kernel_rfl) @h
def s21_p8 (K : Value → World → Prop) (B1 : List Value → World → Prop) (B2 : List Value → World → Prop) (t0 t2 t3 t4 t6 t7 t8 t20 t21 t22 : Value) (w : World) : Prop :=
  cl Try.prog 24 #[t0, t4, t8] (fun t46 w =>
  bdq [(.int .i64 0), (.int .i64 0), (.int .i64 0), (.int .i64 0)] [(some (0, 1), t46)] (fun t47 w =>
  nw 61 #[(.int .i64 0), (.int .i64 0), (.int .i64 0), (.int .i64 0)] (fun t9 w =>
  stn 4 t9 t47 (fun w =>
  s21_p7 K B1 B2 t0 t2 t3 t4 t6 t7 t8 t9 t20 t21 t22 (.int .i64 0) w) w) w) w) w
def s21_p8_den (K : Value → World → Prop) (M1 : (Nat → Value) → World → Prop) (M2 : (Nat → Value) → World → Prop) : (Nat → Value) → World → Prop := denL Try.prog [(cd (Try.f21.body.getD .skip) [1, 1, 0, 1, 0, 0, 1, 1, 0, 0, 1, 1, 1, 0, 1, 0, 0, 1, 0, 0, 0]), (cd (Try.f21.body.getD .skip) [1, 1, 0, 1, 0, 0, 1, 1, 0, 0, 1, 1, 1, 0, 1, 0, 0, 1, 0, 0, 1, 0, 0])] (s21_p7_den K M1 M2) (fun i => (bif Nat.beq i 3 then (s21_p4_den K M1 M2) else (bif Nat.beq i 2 then (s21_p3_den K M1) else (bif Nat.beq i 1 then (s21_p2_den K M1) else (bif Nat.beq i 0 then (s21_p1_den K) else (fun _ _ => False)))))) (s21_R K)
theorem s21_p8_ok (K : Value → World → Prop) (B1 : List Value → World → Prop) (B2 : List Value → World → Prop) (s : Nat → Value) (w : World) (h : s21_p8 K B1 B2 (s 0) (s 2) (s 3) (s 4) (s 6) (s 7) (s 8) (s 20) (s 21) (s 22) w) : Tr (s21_p8_den K (fun s w => B1 [s 0, s 2, s 3, s 20, s 21, s 22] w) (fun s w => B2 [s 0, s 2, s 3, s 4, s 6, s 7, s 8, s 20, s 21, s 22] w) s w) :=
  tr_simple (P := Try.prog) (codes := [(cd (Try.f21.body.getD .skip) [1, 1, 0, 1, 0, 0, 1, 1, 0, 0, 1, 1, 1, 0, 1, 0, 0, 1, 0, 0, 0]), (cd (Try.f21.body.getD .skip) [1, 1, 0, 1, 0, 0, 1, 1, 0, 0, 1, 1, 1, 0, 1, 0, 0, 1, 0, 0, 1, 0, 0])]) (N := (fun s w => s21_p7 K B1 B2 (s 0) (s 2) (s 3) (s 4) (s 6) (s 7) (s 8) (s 9) (s 20) (s 21) (s 22) (s 48) w)) (N' := (s21_p7_den K (fun s w => B1 [s 0, s 2, s 3, s 20, s 21, s 22] w) (fun s w => B2 [s 0, s 2, s 3, s 4, s 6, s 7, s 8, s 20, s 21, s 22] w))) (X := (fun i => (bif Nat.beq i 3 then (fun s w => s21_p4 K B1 B2 (s 0) (s 2) (s 3) (s 4) (s 6) (s 7) (s 8) (s 20) (s 21) (s 22) w) else (bif Nat.beq i 2 then (fun s w => s21_p3 K B1 (s 0) (s 2) (s 3) (s 6) (s 7) (s 20) (s 21) (s 22) w) else (bif Nat.beq i 1 then (fun s w => s21_p2 K B1 (s 0) (s 2) (s 3) (s 20) (s 21) (s 22) w) else (bif Nat.beq i 0 then (fun s w => s21_p1 K (s 2) (s 3) w) else (fun _ _ => False))))))) (X' := (fun i => (bif Nat.beq i 3 then (s21_p4_den K (fun s w => B1 [s 0, s 2, s 3, s 20, s 21, s 22] w) (fun s w => B2 [s 0, s 2, s 3, s 4, s 6, s 7, s 8, s 20, s 21, s 22] w)) else (bif Nat.beq i 2 then (s21_p3_den K (fun s w => B1 [s 0, s 2, s 3, s 20, s 21, s 22] w)) else (bif Nat.beq i 1 then (s21_p2_den K (fun s w => B1 [s 0, s 2, s 3, s 20, s 21, s 22] w)) else (bif Nat.beq i 0 then (s21_p1_den K) else (fun _ _ => False))))))) (R := s21_R K) (s := s) (w := w) (p := s21_p8 K B1 B2 (s 0) (s 2) (s 3) (s 4) (s 6) (s 7) (s 8) (s 20) (s 21) (s 22) w) (q := s21_p8_den K (fun s w => B1 [s 0, s 2, s 3, s 20, s 21, s 22] w) (fun s w => B2 [s 0, s 2, s 3, s 4, s 6, s 7, s 8, s 20, s 21, s 22] w) s w) (fun s w h => s21_p7_ok K B1 B2 s w @h) (fun i => (tr_bif (fun s w h => s21_p4_ok K B1 B2 s w @h) (tr_bif (fun s w h => s21_p3_ok K B1 s w @h) (tr_bif (fun s w h => s21_p2_ok K B1 s w @h) (tr_bif (fun s w h => s21_p1_ok K s w @h) tr_id))))) (by kernel_rfl) (by kernel_rfl) @h
def s21_p9 (K : Value → World → Prop) (B1 : List Value → World → Prop) (B2 : List Value → World → Prop) (t0 t2 t3 t4 t6 t7 t8 t20 t21 t22 : Value) (w : World) : Prop :=
  cl Try.prog 60 #[t0, t4, t8] (fun t40 w =>
  ifb t40
  (s21_p8 K B1 B2 t0 t2 t3 t4 t6 t7 t8 t20 t21 t22 w)
  (s21_p3 K B1 t0 t2 t3 t6 t7 t20 t21 t22 w)) w
def s21_p9_den (K : Value → World → Prop) (M1 : (Nat → Value) → World → Prop) (M2 : (Nat → Value) → World → Prop) : (Nat → Value) → World → Prop := denL Try.prog [(cd (Try.f21.body.getD .skip) [1, 1, 0, 1, 0, 0, 1, 1, 0, 0, 1, 1, 1, 0, 1, 0, 0, 0, 0]), (cd (Try.f21.body.getD .skip) [1, 1, 0, 1, 0, 0, 1, 1, 0, 0, 1, 1, 1, 0, 1, 0, 0, 0, 1])] (s21_p8_den K M1 M2) (fun i => (bif Nat.beq i 2 then (s21_p3_den K M1) else (bif Nat.beq i 1 then (s21_p2_den K M1) else (bif Nat.beq i 0 then (s21_p1_den K) else (fun _ _ => False))))) (s21_R K)
theorem s21_p9_ok (K : Value → World → Prop) (B1 : List Value → World → Prop) (B2 : List Value → World → Prop) (s : Nat → Value) (w : World) (h : s21_p9 K B1 B2 (s 0) (s 2) (s 3) (s 4) (s 6) (s 7) (s 8) (s 20) (s 21) (s 22) w) : Tr (s21_p9_den K (fun s w => B1 [s 0, s 2, s 3, s 20, s 21, s 22] w) (fun s w => B2 [s 0, s 2, s 3, s 4, s 6, s 7, s 8, s 20, s 21, s 22] w) s w) :=
  tr_simple (P := Try.prog) (codes := [(cd (Try.f21.body.getD .skip) [1, 1, 0, 1, 0, 0, 1, 1, 0, 0, 1, 1, 1, 0, 1, 0, 0, 0, 0]), (cd (Try.f21.body.getD .skip) [1, 1, 0, 1, 0, 0, 1, 1, 0, 0, 1, 1, 1, 0, 1, 0, 0, 0, 1])]) (N := (fun s w => s21_p8 K B1 B2 (s 0) (s 2) (s 3) (s 4) (s 6) (s 7) (s 8) (s 20) (s 21) (s 22) w)) (N' := (s21_p8_den K (fun s w => B1 [s 0, s 2, s 3, s 20, s 21, s 22] w) (fun s w => B2 [s 0, s 2, s 3, s 4, s 6, s 7, s 8, s 20, s 21, s 22] w))) (X := (fun i => (bif Nat.beq i 2 then (fun s w => s21_p3 K B1 (s 0) (s 2) (s 3) (s 6) (s 7) (s 20) (s 21) (s 22) w) else (bif Nat.beq i 1 then (fun s w => s21_p2 K B1 (s 0) (s 2) (s 3) (s 20) (s 21) (s 22) w) else (bif Nat.beq i 0 then (fun s w => s21_p1 K (s 2) (s 3) w) else (fun _ _ => False)))))) (X' := (fun i => (bif Nat.beq i 2 then (s21_p3_den K (fun s w => B1 [s 0, s 2, s 3, s 20, s 21, s 22] w)) else (bif Nat.beq i 1 then (s21_p2_den K (fun s w => B1 [s 0, s 2, s 3, s 20, s 21, s 22] w)) else (bif Nat.beq i 0 then (s21_p1_den K) else (fun _ _ => False)))))) (R := s21_R K) (s := s) (w := w) (p := s21_p9 K B1 B2 (s 0) (s 2) (s 3) (s 4) (s 6) (s 7) (s 8) (s 20) (s 21) (s 22) w) (q := s21_p9_den K (fun s w => B1 [s 0, s 2, s 3, s 20, s 21, s 22] w) (fun s w => B2 [s 0, s 2, s 3, s 4, s 6, s 7, s 8, s 20, s 21, s 22] w) s w) (fun s w h => s21_p8_ok K B1 B2 s w @h) (fun i => (tr_bif (fun s w h => s21_p3_ok K B1 s w @h) (tr_bif (fun s w h => s21_p2_ok K B1 s w @h) (tr_bif (fun s w h => s21_p1_ok K s w @h) tr_id)))) (by kernel_rfl) (by kernel_rfl) @h
def s21_p10_F (K : Value → World → Prop) (B1 : List Value → World → Prop) (B2 : List Value → World → Prop) (l : List Value) (w : World) : Prop :=
  match l with
  | [t0, t2, t3, t4, t6, t7, t8, t20, t21, t22] => s21_p9 K B1 B2 t0 t2 t3 t4 t6 t7 t8 t20 t21 t22 w
  | _ => False
theorem s21_p10_Fe {K : Value → World → Prop} {B1 : List Value → World → Prop} {B2 : List Value → World → Prop} {t0 t2 t3 t4 t6 t7 t8 t20 t21 t22 : Value} {w : World} : s21_p10_F K B1 B2 [t0, t2, t3, t4, t6, t7, t8, t20, t21, t22] w = s21_p9 K B1 B2 t0 t2 t3 t4 t6 t7 t8 t20 t21 t22 w := by kernel_rfl
def s21_p10 (K : Value → World → Prop) (B1 : List Value → World → Prop) (t0 t2 t3 t4 t6 t7 t8 t20 t21 t22 : Value) (w : World) : Prop :=
  LoopL (s21_p10_F K B1) [t0, t2, t3, t4, t6, t7, t8, t20, t21, t22] w
def s21_p10_den (K : Value → World → Prop) (M1 : (Nat → Value) → World → Prop) : (Nat → Value) → World → Prop := fun s w => LoopP (fun M2 s w => s21_p9_den K M1 M2 s w) s w
theorem s21_p10_ok (K : Value → World → Prop) (B1 : List Value → World → Prop) (s : Nat → Value) (w : World) (h : s21_p10 K B1 (s 0) (s 2) (s 3) (s 4) (s 6) (s 7) (s 8) (s 20) (s 21) (s 22) w) : Tr (s21_p10_den K (fun s w => B1 [s 0, s 2, s 3, s 20, s 21, s 22] w) s w) :=
  tr_loop (G := fun N' s w => s21_p9_den K (fun s w => B1 [s 0, s 2, s 3, s 20, s 21, s 22] w) N' s w) (F := s21_p10_F K B1) (sel := fun s => [s 0, s 2, s 3, s 4, s 6, s 7, s 8, s 20, s 21, s 22]) (s := s) (w := w) (p := s21_p10 K B1 (s 0) (s 2) (s 3) (s 4) (s 6) (s 7) (s 8) (s 20) (s 21) (s 22) w) (q := s21_p10_den K (fun s w => B1 [s 0, s 2, s 3, s 20, s 21, s 22] w) s w) (fun B s w h => s21_p9_ok K B1 B s w @h) (by kernel_rfl) (by kernel_rfl) @h
def s21_p11 (K : Value → World → Prop) (B1 : List Value → World → Prop) (t0 t2 t3 t4 t6 t20 t21 t22 : Value) (w : World) : Prop :=
  bsq 61 [(.int .i64 0), (.int .i64 0), (.int .i64 0), (.int .i64 0)] 0 [] (fun t35 w =>
  s21_p10 K B1 t0 t2 t3 t4 t6 t35 t6 t20 t21 t22 w) w
def s21_p11_den (K : Value → World → Prop) (M1 : (Nat → Value) → World → Prop) : (Nat → Value) → World → Prop := denL Try.prog [(cd (Try.f21.body.getD .skip) [1, 1, 0, 1, 0, 0, 1, 1, 0, 0, 1, 1, 0]), (cd (Try.f21.body.getD .skip) [1, 1, 0, 1, 0, 0, 1, 1, 0, 0, 1, 1, 1, 0, 0])] (s21_p10_den K M1) (fun i => (bif Nat.beq i 1 then (s21_p2_den K M1) else (bif Nat.beq i 0 then (s21_p1_den K) else (fun _ _ => False)))) (s21_R K)
theorem s21_p11_ok (K : Value → World → Prop) (B1 : List Value → World → Prop) (s : Nat → Value) (w : World) (h : s21_p11 K B1 (s 0) (s 2) (s 3) (s 4) (s 6) (s 20) (s 21) (s 22) w) : Tr (s21_p11_den K (fun s w => B1 [s 0, s 2, s 3, s 20, s 21, s 22] w) s w) :=
  tr_simple (P := Try.prog) (codes := [(cd (Try.f21.body.getD .skip) [1, 1, 0, 1, 0, 0, 1, 1, 0, 0, 1, 1, 0]), (cd (Try.f21.body.getD .skip) [1, 1, 0, 1, 0, 0, 1, 1, 0, 0, 1, 1, 1, 0, 0])]) (N := (fun s w => s21_p10 K B1 (s 0) (s 2) (s 3) (s 4) (s 6) (s 7) (s 8) (s 20) (s 21) (s 22) w)) (N' := (s21_p10_den K (fun s w => B1 [s 0, s 2, s 3, s 20, s 21, s 22] w))) (X := (fun i => (bif Nat.beq i 1 then (fun s w => s21_p2 K B1 (s 0) (s 2) (s 3) (s 20) (s 21) (s 22) w) else (bif Nat.beq i 0 then (fun s w => s21_p1 K (s 2) (s 3) w) else (fun _ _ => False))))) (X' := (fun i => (bif Nat.beq i 1 then (s21_p2_den K (fun s w => B1 [s 0, s 2, s 3, s 20, s 21, s 22] w)) else (bif Nat.beq i 0 then (s21_p1_den K) else (fun _ _ => False))))) (R := s21_R K) (s := s) (w := w) (p := s21_p11 K B1 (s 0) (s 2) (s 3) (s 4) (s 6) (s 20) (s 21) (s 22) w) (q := s21_p11_den K (fun s w => B1 [s 0, s 2, s 3, s 20, s 21, s 22] w) s w) (fun s w h => s21_p10_ok K B1 s w @h) (fun i => (tr_bif (fun s w h => s21_p2_ok K B1 s w @h) (tr_bif (fun s w h => s21_p1_ok K s w @h) tr_id))) (by kernel_rfl) (by kernel_rfl) @h
def s21_p12_d (K : Value → World → Prop) (B1 : List Value → World → Prop) (t0 t2 t3 t4 t5 t20 t21 t22 : Value) (w0 w : World) : Prop :=
  nck t0 (fun t28 _ =>
  fd 3 t28 (fun t29 _ =>
  ld1 t29 (fun t30 _ =>
  fd 1 t5 (fun t31 _ =>
  ld1 t31 (fun t32 _ =>
  boI .sub t30 t32 (fun t33 _ =>
  boI .add t33 (.int .i64 1) (fun t34 _ =>
  s21_p11 K B1 t0 t2 t3 t4 t34 t20 t21 t22 w) w0) w0) w0) w0) w0) w0) w0
def s21_p12 (K : Value → World → Prop) (B1 : List Value → World → Prop) (t0 t2 t3 t4 t5 t20 t21 t22 : Value) (w : World) : Prop := s21_p12_d K B1 t0 t2 t3 t4 t5 t20 t21 t22 (drw w) (drw w)
def s21_p12_den (K : Value → World → Prop) (M1 : (Nat → Value) → World → Prop) : (Nat → Value) → World → Prop := denL Try.prog [(cd (Try.f21.body.getD .skip) [1, 1, 0, 1, 0, 0, 1, 1, 0, 0, 1, 0])] (s21_p11_den K M1) (fun i => (bif Nat.beq i 1 then (s21_p2_den K M1) else (bif Nat.beq i 0 then (s21_p1_den K) else (fun _ _ => False)))) (s21_R K)
theorem s21_p12_ok (K : Value → World → Prop) (B1 : List Value → World → Prop) (s : Nat → Value) (w : World) (h : s21_p12 K B1 (s 0) (s 2) (s 3) (s 4) (s 5) (s 20) (s 21) (s 22) w) : Tr (s21_p12_den K (fun s w => B1 [s 0, s 2, s 3, s 20, s 21, s 22] w) s w) :=
  tr_draw (P := Try.prog) (ops := (ro (cd (Try.f21.body.getD .skip) [1, 1, 0, 1, 0, 0, 1, 1, 0, 0, 1, 0]))) (ms := [0, 1, 3, 7, 0, 16, 63, 127, 255]) (cs := [0, 1, 2, 3, 4, 5, 6, 7, 8]) (N := (fun s w => s21_p11 K B1 (s 0) (s 2) (s 3) (s 4) (s 6) (s 20) (s 21) (s 22) w)) (N' := (s21_p11_den K (fun s w => B1 [s 0, s 2, s 3, s 20, s 21, s 22] w))) (s := s) (w := w) (p := s21_p12 K B1 (s 0) (s 2) (s 3) (s 4) (s 5) (s 20) (s 21) (s 22) w) (q := s21_p12_den K (fun s w => B1 [s 0, s 2, s 3, s 20, s 21, s 22] w) s w) (by kernel_rfl) (by kernel_rfl) (fun s w h => s21_p11_ok K B1 s w @h) (by kernel_rfl) (by kernel_rfl) @h
def s21_p13 (K : Value → World → Prop) (B1 : List Value → World → Prop) (t0 t2 t3 t20 t21 t22 : Value) (w : World) : Prop :=
  ixs 5 t20 t22 (fun t25 w =>
  ldn 5 t25 (fun t26 w =>
  nw 59 #[(.int .i64 0), (.int .i64 0), (.int .i64 0), (.int .i64 0), (.int .i64 0)] (fun t5 w =>
  stn 5 t5 t26 (fun w =>
  s21_p12 K B1 t0 t2 t3 t22 t5 t20 t21 t22 w) w) w) w) w
def s21_p13_den (K : Value → World → Prop) (M1 : (Nat → Value) → World → Prop) : (Nat → Value) → World → Prop := denL Try.prog [(cd (Try.f21.body.getD .skip) [1, 1, 0, 1, 0, 0, 1, 1, 0, 0, 0])] (s21_p12_den K M1) (fun i => (bif Nat.beq i 1 then (s21_p2_den K M1) else (bif Nat.beq i 0 then (s21_p1_den K) else (fun _ _ => False)))) (s21_R K)
theorem s21_p13_ok (K : Value → World → Prop) (B1 : List Value → World → Prop) (s : Nat → Value) (w : World) (h : s21_p13 K B1 (s 0) (s 2) (s 3) (s 20) (s 21) (s 22) w) : Tr (s21_p13_den K (fun s w => B1 [s 0, s 2, s 3, s 20, s 21, s 22] w) s w) :=
  tr_simple (P := Try.prog) (codes := [(cd (Try.f21.body.getD .skip) [1, 1, 0, 1, 0, 0, 1, 1, 0, 0, 0])]) (N := (fun s w => s21_p12 K B1 (s 0) (s 2) (s 3) (s 4) (s 5) (s 20) (s 21) (s 22) w)) (N' := (s21_p12_den K (fun s w => B1 [s 0, s 2, s 3, s 20, s 21, s 22] w))) (X := (fun i => (bif Nat.beq i 1 then (fun s w => s21_p2 K B1 (s 0) (s 2) (s 3) (s 20) (s 21) (s 22) w) else (bif Nat.beq i 0 then (fun s w => s21_p1 K (s 2) (s 3) w) else (fun _ _ => False))))) (X' := (fun i => (bif Nat.beq i 1 then (s21_p2_den K (fun s w => B1 [s 0, s 2, s 3, s 20, s 21, s 22] w)) else (bif Nat.beq i 0 then (s21_p1_den K) else (fun _ _ => False))))) (R := s21_R K) (s := s) (w := w) (p := s21_p13 K B1 (s 0) (s 2) (s 3) (s 20) (s 21) (s 22) w) (q := s21_p13_den K (fun s w => B1 [s 0, s 2, s 3, s 20, s 21, s 22] w) s w) (fun s w h => s21_p12_ok K B1 s w @h) (fun i => (tr_bif (fun s w h => s21_p2_ok K B1 s w @h) (tr_bif (fun s w h => s21_p1_ok K s w @h) tr_id))) (by kernel_rfl) (by kernel_rfl) @h
def s21_p14 (K : Value → World → Prop) (B1 : List Value → World → Prop) (t0 t2 t3 t20 t21 t22 : Value) (w : World) : Prop :=
  boI .lss t22 t21 (fun t23 w =>
  ifb t23
  (s21_p13 K B1 t0 t2 t3 t20 t21 t22 w)
  (s21_p1 K t2 t3 w)) w
def s21_p14_den (K : Value → World → Prop) (M1 : (Nat → Value) → World → Prop) : (Nat → Value) → World → Prop := denL Try.prog [(cd (Try.f21.body.getD .skip) [1, 1, 0, 1, 0, 0, 0]), (cd (Try.f21.body.getD .skip) [1, 1, 0, 1, 0, 0, 1, 0])] (s21_p13_den K M1) (fun i => (bif Nat.beq i 0 then (s21_p1_den K) else (fun _ _ => False))) (s21_R K)
theorem s21_p14_ok (K : Value → World → Prop) (B1 : List Value → World → Prop) (s : Nat → Value) (w : World) (h : s21_p14 K B1 (s 0) (s 2) (s 3) (s 20) (s 21) (s 22) w) : Tr (s21_p14_den K (fun s w => B1 [s 0, s 2, s 3, s 20, s 21, s 22] w) s w) :=
  tr_simple (P := Try.prog) (codes := [(cd (Try.f21.body.getD .skip) [1, 1, 0, 1, 0, 0, 0]), (cd (Try.f21.body.getD .skip) [1, 1, 0, 1, 0, 0, 1, 0])]) (N := (fun s w => s21_p13 K B1 (s 0) (s 2) (s 3) (s 20) (s 21) (s 22) w)) (N' := (s21_p13_den K (fun s w => B1 [s 0, s 2, s 3, s 20, s 21, s 22] w))) (X := (fun i => (bif Nat.beq i 0 then (fun s w => s21_p1 K (s 2) (s 3) w) else (fun _ _ => False)))) (X' := (fun i => (bif Nat.beq i 0 then (s21_p1_den K) else (fun _ _ => False)))) (R := s21_R K) (s := s) (w := w) (p := s21_p14 K B1 (s 0) (s 2) (s 3) (s 20) (s 21) (s 22) w) (q := s21_p14_den K (fun s w => B1 [s 0, s 2, s 3, s 20, s 21, s 22] w) s w) (fun s w h => s21_p13_ok K B1 s w @h) (fun i => (tr_bif (fun s w h => s21_p1_ok K s w @h) tr_id)) (by kernel_rfl) (by kernel_rfl) @h
def s21_p15_F (K : Value → World → Prop) (B1 : List Value → World → Prop) (l : List Value) (w : World) : Prop :=
  match l with
  | [t0, t2, t3, t20, t21, t22] => s21_p14 K B1 t0 t2 t3 t20 t21 t22 w
  | _ => False
theorem s21_p15_Fe {K : Value → World → Prop} {B1 : List Value → World → Prop} {t0 t2 t3 t20 t21 t22 : Value} {w : World} : s21_p15_F K B1 [t0, t2, t3, t20, t21, t22] w = s21_p14 K B1 t0 t2 t3 t20 t21 t22 w := by kernel_rfl
def s21_p15 (K : Value → World → Prop) (t0 t2 t3 t20 t21 t22 : Value) (w : World) : Prop :=
  LoopL (s21_p15_F K) [t0, t2, t3, t20, t21, t22] w
def s21_p15_den (K : Value → World → Prop) : (Nat → Value) → World → Prop := fun s w => LoopP (fun M1 s w => s21_p14_den K M1 s w) s w
theorem s21_p15_ok (K : Value → World → Prop) (s : Nat → Value) (w : World) (h : s21_p15 K (s 0) (s 2) (s 3) (s 20) (s 21) (s 22) w) : Tr (s21_p15_den K s w) :=
  tr_loop (G := fun N' s w => s21_p14_den K N' s w) (F := s21_p15_F K) (sel := fun s => [s 0, s 2, s 3, s 20, s 21, s 22]) (s := s) (w := w) (p := s21_p15 K (s 0) (s 2) (s 3) (s 20) (s 21) (s 22) w) (q := s21_p15_den K s w) (fun B s w h => s21_p14_ok K B s w @h) (by kernel_rfl) (by kernel_rfl) @h
def s21_p16 (K : Value → World → Prop) (t0 : Value) (w : World) : Prop :=
  nw 43 #[(.bool false), (.int .i64 0), (.slice none 0 0), (.slice none 0 0)] (fun t2 w =>
  nck t0 (fun t12 w =>
  fd 3 t12 (fun t13 w =>
  ld1 t13 (fun t14 w =>
  bdq [(.bool false), (.int .i64 0), (.slice none 0 0), (.slice none 0 0)] [(some (0, 1), (.bool true)), (some (1, 1), t14)] (fun t15 w =>
  nw 43 #[(.bool false), (.int .i64 0), (.slice none 0 0), (.slice none 0 0)] (fun t3 w =>
  stn 4 t3 t15 (fun w =>
  nck t0 (fun t17 w =>
  fd 0 t17 (fun t18 w =>
  fd 2 t18 (fun t19 w =>
  ld1 t19 (fun t20 w =>
  lnS t20 (fun t21 w =>
  s21_p15 K t0 t2 t3 t20 t21 (.int .i64 0) w) w) w) w) w) w) w) w) w) w) w) w) w
def s21_p16_den (K : Value → World → Prop) : (Nat → Value) → World → Prop := denL Try.prog [(cd (Try.f21.body.getD .skip) [0]), (cd (Try.f21.body.getD .skip) [1, 0]), (cd (Try.f21.body.getD .skip) [1, 1, 0, 0])] (s21_p15_den K) (fun i => (fun _ _ => False)) (s21_R K)
theorem s21_p16_ok (K : Value → World → Prop) (s : Nat → Value) (w : World) (h : s21_p16 K (s 0) w) : Tr (s21_p16_den K s w) :=
  tr_simple (P := Try.prog) (codes := [(cd (Try.f21.body.getD .skip) [0]), (cd (Try.f21.body.getD .skip) [1, 0]), (cd (Try.f21.body.getD .skip) [1, 1, 0, 0])]) (N := (fun s w => s21_p15 K (s 0) (s 2) (s 3) (s 20) (s 21) (s 22) w)) (N' := (s21_p15_den K)) (X := (fun i => (fun _ _ => False))) (X' := (fun i => (fun _ _ => False))) (R := s21_R K) (s := s) (w := w) (p := s21_p16 K (s 0) w) (q := s21_p16_den K s w) (fun s w h => s21_p15_ok K s w @h) (fun i => tr_id) (by kernel_rfl) (by kernel_rfl) @h
/-- the call, from the text -/
theorem c21 (t0 : Value) {K : Value → World → Prop} {w : World} (h : s21_p16 K t0 w) : cl Try.prog 21 #[t0] K w :=
  calls_of_tr (c := (Try.f21.body.getD .skip)) (fn := Try.f21) (q := s21_p16_den K (st0 #[t0]) w) Try.func21 (by kernel_rfl) (by kernel_rfl) (Nat.le_of_ble_eq_true (by kernel_rfl)) (by kernel_rfl) (by kernel_rfl) (s21_p16_ok K (st0 #[t0]) w @h)

/-! ### function 22 : (*e2e.slots.Tables).Window -/
def s22_R (K : Value → World → Prop) (s : Nat → Value) (w : World) : Prop := retv Try.prog s Try.f22.results.toList (fun vs => K (pack vs) w) w
def s22_p1 (K : Value → World → Prop) (t4 t5 t6 : Value) (w : World) : Prop :=
  K (.tuple #[t4, t5, t6]) w
def s22_p1_den (K : Value → World → Prop) : (Nat → Value) → World → Prop := denL Try.prog [(cd (Try.f22.body.getD .skip) [1, 1, 1, 1])] (fun _ _ => False) (fun i => (fun _ _ => False)) (s22_R K)
theorem s22_p1_ok (K : Value → World → Prop) (s : Nat → Value) (w : World) (h : s22_p1 K (s 4) (s 5) (s 6) w) : Tr (s22_p1_den K s w) :=
  tr_simple (P := Try.prog) (codes := [(cd (Try.f22.body.getD .skip) [1, 1, 1, 1])]) (N := (fun _ _ => False)) (N' := (fun _ _ => False)) (X := (fun i => (fun _ _ => False))) (X' := (fun i => (fun _ _ => False))) (R := s22_R K) (s := s) (w := w) (p := s22_p1 K (s 4) (s 5) (s 6) w) (q := s22_p1_den K s w) tr_id (fun i => tr_id) (by kernel_rfl) (by kernel_rfl) @h
def s22_p2_d (K : Value → World → Prop) (t0 t7 : Value) (w0 w : World) : Prop :=
  nck t0 (fun t25 _ =>
  fd 2 t25 (fun t26 _ =>
  ld1 t26 (fun t27 _ =>
  nck t7 (fun t29 _ =>
  fd 5 t29 (fun t30 _ =>
  ld1 t30 (fun t31 _ =>
  boI .sub t27 t31 (fun t32 _ =>
  nck t0 (fun t34 _ =>
  fd 2 t34 (fun t35 _ =>
  ld1 t35 (fun t36 _ =>
  nck t0 (fun t38 _ =>
  fd 0 t38 (fun t39 _ =>
  ld1 t39 (fun t40 _ =>
  boI .add t36 t40 (fun t41 _ =>
  boI .sub t41 (.int .i64 1) (fun t42 _ =>
  nck t7 (fun t44 _ =>
  fd 5 t44 (fun t45 _ =>
  ld1 t45 (fun t46 _ =>
  boI .add t42 t46 (fun t47 _ =>
  s22_p1 K t32 t47 .nilIface w) w0) w0) w0) w0) w0) w0) w0) w0) w0) w0) w0) w0) w0) w0) w0) w0) w0) w0) w0
def s22_p2 (K : Value → World → Prop) (t0 t7 : Value) (w : World) : Prop := s22_p2_d K t0 t7 (drw w) (drw w)
def s22_p2_den (K : Value → World → Prop) : (Nat → Value) → World → Prop := denL Try.prog [(cd (Try.f22.body.getD .skip) [1, 1, 1, 0])] (s22_p1_den K) (fun i => (fun _ _ => False)) (s22_R K)
theorem s22_p2_ok (K : Value → World → Prop) (s : Nat → Value) (w : World) (h : s22_p2 K (s 0) (s 7) w) : Tr (s22_p2_den K s w) :=
  tr_draw (P := Try.prog) (ops := (ro (cd (Try.f22.body.getD .skip) [1, 1, 1, 0]))) (ms := [0, 1, 3, 7, 0, 16, 48, 112, 255, 0, 512, 1536, 3584, 0, 8192, 24576, 57344, 130560, 261632, 0, 524288, 1572864, 3670016, 8388096, 511, 33554431, 67108863]) (cs := [0, 1, 2, 3, 4, 5, 6, 7, 8, 9, 10, 11, 12, 13, 14, 15, 16, 17, 18, 19, 20, 21, 22, 23, 24, 25, 26]) (N := (fun s w => s22_p1 K (s 4) (s 5) (s 6) w)) (N' := (s22_p1_den K)) (s := s) (w := w) (p := s22_p2 K (s 0) (s 7) w) (q := s22_p2_den K s w) (by kernel_rfl) (by kernel_rfl) (fun s w h => s22_p1_ok K s w @h) (by kernel_rfl) (by kernel_rfl) @h
def s22_p3 (K : Value → World → Prop) (t0 t1 : Value) (w : World) : Prop :=
  nck t0 (fun t13 w =>
  fd 2 t13 (fun t14 w =>
  ld1 t14 (fun t15 w =>
  cl Try.prog 62 #[t0, t1, t15, (.int .i64 0), (.int .i64 1), (.int .i64 2)] (fun t16 w =>
  exq t16 0 (fun t17 w =>
  exq t16 1 (fun t18 w =>
  boI .neq t18 (.int .i64 0) (fun t20 w =>
  ifb t20
  (cl Try.prog 63 #[t18, (.string ⟨#[87, 105, 110, 100, 111, 119]⟩), t1, (.int .i64 0), (.int .i64 0), (.int .i64 0)] (fun t23 w =>
  K (.tuple #[(.int .i64 0), (.int .i64 0), t23]) w) w)
  (s22_p2 K t0 t17 w)) w) w) w) w) w) w) w
def s22_p3_den (K : Value → World → Prop) : (Nat → Value) → World → Prop := denL Try.prog [(cd (Try.f22.body.getD .skip) [0]), (cd (Try.f22.body.getD .skip) [1, 0]), (cd (Try.f22.body.getD .skip) [1, 1, 0, 0]), (cd (Try.f22.body.getD .skip) [1, 1, 0, 1])] (s22_p2_den K) (fun i => (fun _ _ => False)) (s22_R K)
theorem s22_p3_ok (K : Value → World → Prop) (s : Nat → Value) (w : World) (h : s22_p3 K (s 0) (s 1) w) : Tr (s22_p3_den K s w) :=
  tr_simple (P := Try.prog) (codes := [(cd (Try.f22.body.getD .skip) [0]), (cd (Try.f22.body.getD .skip) [1, 0]), (cd (Try.f22.body.getD .skip) [1, 1, 0, 0]), (cd (Try.f22.body.getD .skip) [1, 1, 0, 1])]) (N := (fun s w => s22_p2 K (s 0) (s 7) w)) (N' := (s22_p2_den K)) (X := (fun i => (fun _ _ => False))) (X' := (fun i => (fun _ _ => False))) (R := s22_R K) (s := s) (w := w) (p := s22_p3 K (s 0) (s 1) w) (q := s22_p3_den K s w) (fun s w h => s22_p2_ok K s w @h) (fun i => tr_id) (by kernel_rfl) (by kernel_rfl) @h
/-- the call, from the text -/
theorem c22 (t0 t1 : Value) {K : Value → World → Prop} {w : World} (h : s22_p3 K t0 t1 w) : cl Try.prog 22 #[t0, t1] K w :=
  calls_of_tr (c := (Try.f22.body.getD .skip)) (fn := Try.f22) (q := s22_p3_den K (st0 #[t0, t1]) w) Try.func22 (by kernel_rfl) (by kernel_rfl) (Nat.le_of_ble_eq_true (by kernel_rfl)) (by kernel_rfl) (by kernel_rfl) (s22_p3_ok K (st0 #[t0, t1]) w @h)

/-! ### function 23 : (*e2e.slots.Tables).Occupancy -/
def s23_R (K : Value → World → Prop) (s : Nat → Value) (w : World) : Prop := retv Try.prog s Try.f23.results.toList (fun vs => K (pack vs) w) w
def s23_p1 (K : Value → World → Prop) (t6 t7 : Value) (w : World) : Prop :=
  K (.tuple #[t6, t7]) w
def s23_p1_den (K : Value → World → Prop) : (Nat → Value) → World → Prop := denL Try.prog [(cd (Try.f23.body.getD .skip) [1, 1, 1, 1])] (fun _ _ => False) (fun i => (fun _ _ => False)) (s23_R K)
theorem s23_p1_ok (K : Value → World → Prop) (s : Nat → Value) (w : World) (h : s23_p1 K (s 6) (s 7) w) : Tr (s23_p1_den K s w) :=
  tr_simple (P := Try.prog) (codes := [(cd (Try.f23.body.getD .skip) [1, 1, 1, 1])]) (N := (fun _ _ => False)) (N' := (fun _ _ => False)) (X := (fun i => (fun _ _ => False))) (X' := (fun i => (fun _ _ => False))) (R := s23_R K) (s := s) (w := w) (p := s23_p1 K (s 6) (s 7) w) (q := s23_p1_den K s w) tr_id (fun i => tr_id) (by kernel_rfl) (by kernel_rfl) @h
def s23_p2_d (K : Value → World → Prop) (t2 t8 : Value) (w0 w : World) : Prop :=
  nck t8 (fun t24 _ =>
  fd 7 t24 (fun t25 _ =>
  ld1 t25 (fun t26 _ =>
  cl Try.prog 64 #[t8, t2] (fun t29 w =>
  Below w0.heap.size w0 w ∧
  ixs 1 t26 t29 (fun t30 w =>
  Below w0.heap.size w0 w ∧
  ld1 t30 (fun t31 w =>
  Below w0.heap.size w0 w ∧
  Below w0.heap.size w0 w ∧
  s23_p1 K t31 .nilIface w) w) w) w) w0) w0) w0
def s23_p2 (K : Value → World → Prop) (t2 t8 : Value) (w : World) : Prop := s23_p2_d K t2 t8 (drw w) (drw w)
def s23_p2_den (K : Value → World → Prop) : (Nat → Value) → World → Prop := denL Try.prog [(cd (Try.f23.body.getD .skip) [1, 1, 1, 0])] (s23_p1_den K) (fun i => (fun _ _ => False)) (s23_R K)
theorem s23_p2_ok (K : Value → World → Prop) (s : Nat → Value) (w : World) (h : s23_p2 K (s 2) (s 8) w) : Tr (s23_p2_den K s w) :=
  tr_draw (P := Try.prog) (ops := (ro (cd (Try.f23.body.getD .skip) [1, 1, 1, 0]))) (ms := [0, 1, 3, 7, 0, 0, 48, 127, 255, 511, 1023]) (cs := [0, 1, 2, 3, 4, 5, 10]) (N := (fun s w => s23_p1 K (s 6) (s 7) w)) (N' := (s23_p1_den K)) (s := s) (w := w) (p := s23_p2 K (s 2) (s 8) w) (q := s23_p2_den K s w) (by kernel_rfl) (by kernel_rfl) (fun s w h => s23_p1_ok K s w @h) (by kernel_rfl) (by kernel_rfl) @h
def s23_p3 (K : Value → World → Prop) (t0 t1 t2 : Value) (w : World) : Prop :=
  cl Try.prog 62 #[t0, t1, t2, (.int .i64 0), (.int .i64 1), (.int .i64 2)] (fun t14 w =>
  exq t14 0 (fun t15 w =>
  exq t14 1 (fun t16 w =>
  boI .neq t16 (.int .i64 0) (fun t18 w =>
  ifb t18
  (cl Try.prog 63 #[t16, (.string ⟨#[79, 99, 99, 117, 112, 97, 110, 99, 121]⟩), t1, t2, (.int .i64 0), (.int .i64 0)] (fun t22 w =>
  K (.tuple #[(.int .i64 0), t22]) w) w)
  (s23_p2 K t2 t15 w)) w) w) w) w
def s23_p3_den (K : Value → World → Prop) : (Nat → Value) → World → Prop := denL Try.prog [(cd (Try.f23.body.getD .skip) [0]), (cd (Try.f23.body.getD .skip) [1, 0]), (cd (Try.f23.body.getD .skip) [1, 1, 0, 0]), (cd (Try.f23.body.getD .skip) [1, 1, 0, 1])] (s23_p2_den K) (fun i => (fun _ _ => False)) (s23_R K)
theorem s23_p3_ok (K : Value → World → Prop) (s : Nat → Value) (w : World) (h : s23_p3 K (s 0) (s 1) (s 2) w) : Tr (s23_p3_den K s w) :=
  tr_simple (P := Try.prog) (codes := [(cd (Try.f23.body.getD .skip) [0]), (cd (Try.f23.body.getD .skip) [1, 0]), (cd (Try.f23.body.getD .skip) [1, 1, 0, 0]), (cd (Try.f23.body.getD .skip) [1, 1, 0, 1])]) (N := (fun s w => s23_p2 K (s 2) (s 8) w)) (N' := (s23_p2_den K)) (X := (fun i => (fun _ _ => False))) (X' := (fun i => (fun _ _ => False))) (R := s23_R K) (s := s) (w := w) (p := s23_p3 K (s 0) (s 1) (s 2) w) (q := s23_p3_den K s w) (fun s w h => s23_p2_ok K s w @h) (fun i => tr_id) (by kernel_rfl) (by kernel_rfl) @h
/-- the call, from the text -/
theorem c23 (t0 t1 t2 : Value) {K : Value → World → Prop} {w : World} (h : s23_p3 K t0 t1 t2 w) : cl Try.prog 23 #[t0, t1, t2] K w :=
  calls_of_tr (c := (Try.f23.body.getD .skip)) (fn := Try.f23) (q := s23_p3_den K (st0 #[t0, t1, t2]) w) Try.func23 (by kernel_rfl) (by kernel_rfl) (Nat.le_of_ble_eq_true (by kernel_rfl)) (by kernel_rfl) (by kernel_rfl) (s23_p3_ok K (st0 #[t0, t1, t2]) w @h)

/-! ### function 24 : (*e2e.slotsm.Tables).Inside -/
def s24_R (K : Value → World → Prop) (s : Nat → Value) (w : World) : Prop := retv Try.prog s Try.f24.results.toList (fun vs => K (pack vs) w) w
def s24_p1 (K : Value → World → Prop) (t7 : Value) (w : World) : Prop :=
  K t7 w
def s24_p1_den (K : Value → World → Prop) : (Nat → Value) → World → Prop := denL Try.prog [(cd (Try.f24.body.getD .skip) [1, 1, 1, 0]), (cd (Try.f24.body.getD .skip) [1, 1, 1, 1])] (fun _ _ => False) (fun i => (fun _ _ => False)) (s24_R K)
theorem s24_p1_ok (K : Value → World → Prop) (s : Nat → Value) (w : World) (h : s24_p1 K (s 7) w) : Tr (s24_p1_den K s w) :=
  tr_simple (P := Try.prog) (codes := [(cd (Try.f24.body.getD .skip) [1, 1, 1, 0]), (cd (Try.f24.body.getD .skip) [1, 1, 1, 1])]) (N := (fun _ _ => False)) (N' := (fun _ _ => False)) (X := (fun i => (fun _ _ => False))) (X' := (fun i => (fun _ _ => False))) (R := s24_R K) (s := s) (w := w) (p := s24_p1 K (s 7) w) (q := s24_p1_den K s w) tr_id (fun i => tr_id) (by kernel_rfl) (by kernel_rfl) @h
def s24_p2 (K : Value → World → Prop) (B1 : List Value → World → Prop) (t0 t1 t2 t7 t13 t14 t15 : Value) (w : World) : Prop :=
  boI .add t15 (.int .i64 1) (fun t49 w =>
  B1 [t0, t1, t2, t7, t13, t14, t49] w) w
def s24_p2_den (K : Value → World → Prop) (M1 : (Nat → Value) → World → Prop) : (Nat → Value) → World → Prop := denL Try.prog [(cd (Try.f24.body.getD .skip) [1, 1, 0, 1, 0, 0, 1, 1, 1])] M1 (fun i => (bif Nat.beq i 0 then (s24_p1_den K) else (fun _ _ => False))) (s24_R K)
theorem s24_p2_ok (K : Value → World → Prop) (B1 : List Value → World → Prop) (s : Nat → Value) (w : World) (h : s24_p2 K B1 (s 0) (s 1) (s 2) (s 7) (s 13) (s 14) (s 15) w) : Tr (s24_p2_den K (fun s w => B1 [s 0, s 1, s 2, s 7, s 13, s 14, s 15] w) s w) :=
  tr_simple (P := Try.prog) (codes := [(cd (Try.f24.body.getD .skip) [1, 1, 0, 1, 0, 0, 1, 1, 1])]) (N := (fun s w => B1 [s 0, s 1, s 2, s 7, s 13, s 14, s 15] w)) (N' := (fun s w => B1 [s 0, s 1, s 2, s 7, s 13, s 14, s 15] w)) (X := (fun i => (bif Nat.beq i 0 then (fun s w => s24_p1 K (s 7) w) else (fun _ _ => False)))) (X' := (fun i => (bif Nat.beq i 0 then (s24_p1_den K) else (fun _ _ => False)))) (R := s24_R K) (s := s) (w := w) (p := s24_p2 K B1 (s 0) (s 1) (s 2) (s 7) (s 13) (s 14) (s 15) w) (q := s24_p2_den K (fun s w => B1 [s 0, s 1, s 2, s 7, s 13, s 14, s 15] w) s w) tr_id (fun i => (tr_bif (fun s w h => s24_p1_ok K s w @h) tr_id)) (by kernel_rfl) (by kernel_rfl) @h
def s24_p3 (K : Value → World → Prop) (B1 : List Value → World → Prop) (t0 t1 t2 t7 t9 t13 t14 t15 t44 : Value) (w : World) : Prop :=
  ifb t44
  (fd 3 t9 (fun t46 w =>
  ld1 t46 (fun t47 w =>
  boI .add t7 t47 (fun t48 w =>
  s24_p2 K B1 t0 t1 t2 t48 t13 t14 t15 w) w) w) w)
  (s24_p2 K B1 t0 t1 t2 t7 t13 t14 t15 w)
def s24_p3_den (K : Value → World → Prop) (M1 : (Nat → Value) → World → Prop) : (Nat → Value) → World → Prop := denL Try.prog [(cd (Try.f24.body.getD .skip) [1, 1, 0, 1, 0, 0, 1, 1, 0, 0, 1, 1])] (s24_p2_den K M1) (fun i => (bif Nat.beq i 1 then (s24_p2_den K M1) else (bif Nat.beq i 0 then (s24_p1_den K) else (fun _ _ => False)))) (s24_R K)
theorem s24_p3_ok (K : Value → World → Prop) (B1 : List Value → World → Prop) (s : Nat → Value) (w : World) (h : s24_p3 K B1 (s 0) (s 1) (s 2) (s 7) (s 9) (s 13) (s 14) (s 15) (s 44) w) : Tr (s24_p3_den K (fun s w => B1 [s 0, s 1, s 2, s 7, s 13, s 14, s 15] w) s w) :=
  tr_simple (P := Try.prog) (codes := [(cd (Try.f24.body.getD .skip) [1, 1, 0, 1, 0, 0, 1, 1, 0, 0, 1, 1])]) (N := (fun s w => s24_p2 K B1 (s 0) (s 1) (s 2) (s 7) (s 13) (s 14) (s 15) w)) (N' := (s24_p2_den K (fun s w => B1 [s 0, s 1, s 2, s 7, s 13, s 14, s 15] w))) (X := (fun i => (bif Nat.beq i 1 then (fun s w => s24_p2 K B1 (s 0) (s 1) (s 2) (s 7) (s 13) (s 14) (s 15) w) else (bif Nat.beq i 0 then (fun s w => s24_p1 K (s 7) w) else (fun _ _ => False))))) (X' := (fun i => (bif Nat.beq i 1 then (s24_p2_den K (fun s w => B1 [s 0, s 1, s 2, s 7, s 13, s 14, s 15] w)) else (bif Nat.beq i 0 then (s24_p1_den K) else (fun _ _ => False))))) (R := s24_R K) (s := s) (w := w) (p := s24_p3 K B1 (s 0) (s 1) (s 2) (s 7) (s 9) (s 13) (s 14) (s 15) (s 44) w) (q := s24_p3_den K (fun s w => B1 [s 0, s 1, s 2, s 7, s 13, s 14, s 15] w) s w) (fun s w h => s24_p2_ok K B1 s w @h) (fun i => (tr_bif (fun s w h => s24_p2_ok K B1 s w @h) (tr_bif (fun s w h => s24_p1_ok K s w @h) tr_id))) (by kernel_rfl) (by kernel_rfl) @h
def s24_p4_d (K : Value → World → Prop) (B1 : List Value → World → Prop) (t0 t1 t2 t7 t9 t13 t14 t15 : Value) (w0 w : World) : Prop :=
  fd 0 t9 (fun t19 _ =>
  ld1 t19 (fun t20 _ =>
  boI .eql t20 t1 (fun t22 _ =>
  gd t22 true (fd 1 t9) (fun t24 _ =>
  gd t22 true (ld1 t24) (fun t25 _ =>
  gd t22 true (fun K w => K t2 w) (fun t26 _ =>
  gd t22 true (boI .leq t25 t26) (fun t27 _ =>
  pk t22 t27 (.bool false) (fun t28 _ =>
  gd t28 true (fun K w => K t2 w) (fun t30 _ =>
  gd t28 true (fd 1 t9) (fun t31 _ =>
  gd t28 true (ld1 t31) (fun t32 _ =>
  gd t28 true (fun K w => K t0 w) (fun t33 _ =>
  gd t28 true (nck t33) (fun t34 _ =>
  gd t28 true (fd 0 t34) (fun t35 _ =>
  gd t28 true (fd 2 t35) (fun t36 _ =>
  gd t28 true (ld1 t36) (fun t37 _ =>
  gd t28 true (fun K w => K t1 w) (fun t38 _ =>
  gd t28 true (ixs 5 t37 t38) (fun t39 _ =>
  gd t28 true (fd 1 t39) (fun t40 _ =>
  gd t28 true (ld1 t40) (fun t41 _ =>
  gd t28 true (boI .add t32 t41) (fun t42 _ =>
  gd t28 true (boI .lss t30 t42) (fun t43 _ =>
  pk t28 t43 (.bool false) (fun t44 _ =>
  s24_p3 K B1 t0 t1 t2 t7 t9 t13 t14 t15 t44 w) w0) w0) w0) w0) w0) w0) w0) w0) w0) w0) w0) w0) w0) w0) w0) w0) w0) w0) w0) w0) w0) w0) w0
def s24_p4 (K : Value → World → Prop) (B1 : List Value → World → Prop) (t0 t1 t2 t7 t9 t13 t14 t15 : Value) (w : World) : Prop := s24_p4_d K B1 t0 t1 t2 t7 t9 t13 t14 t15 (drw w) (drw w)
def s24_p4_den (K : Value → World → Prop) (M1 : (Nat → Value) → World → Prop) : (Nat → Value) → World → Prop := denL Try.prog [(cd (Try.f24.body.getD .skip) [1, 1, 0, 1, 0, 0, 1, 1, 0, 0, 1, 0])] (s24_p3_den K M1) (fun i => (bif Nat.beq i 1 then (s24_p2_den K M1) else (bif Nat.beq i 0 then (s24_p1_den K) else (fun _ _ => False)))) (s24_R K)
theorem s24_p4_ok (K : Value → World → Prop) (B1 : List Value → World → Prop) (s : Nat → Value) (w : World) (h : s24_p4 K B1 (s 0) (s 1) (s 2) (s 7) (s 9) (s 13) (s 14) (s 15) w) : Tr (s24_p4_den K (fun s w => B1 [s 0, s 1, s 2, s 7, s 13, s 14, s 15] w) s w) :=
  tr_draw (P := Try.prog) (ops := (ro (cd (Try.f24.body.getD .skip) [1, 1, 0, 1, 0, 0, 1, 1, 0, 0, 1, 0]))) (ms := [0, 1, 0, 7, 15, 31, 63, 31, 255, 511, 1023, 2047, 2047, 6143, 2047, 18431, 51199, 116735, 247807, 2047, 1034239, 2082815, 4179967, 8386559, 16777215, 33554431]) (cs := [0, 1, 2, 3, 4, 5, 6, 7, 8, 9, 10, 11, 12, 13, 14, 15, 16, 17, 18, 19, 20, 21, 22, 23, 24, 25]) (N := (fun s w => s24_p3 K B1 (s 0) (s 1) (s 2) (s 7) (s 9) (s 13) (s 14) (s 15) (s 44) w)) (N' := (s24_p3_den K (fun s w => B1 [s 0, s 1, s 2, s 7, s 13, s 14, s 15] w))) (s := s) (w := w) (p := s24_p4 K B1 (s 0) (s 1) (s 2) (s 7) (s 9) (s 13) (s 14) (s 15) w) (q := s24_p4_den K (fun s w => B1 [s 0, s 1, s 2, s 7, s 13, s 14, s 15] w) s w) (by kernel_rfl) (by kernel_rfl) (fun s w h => s24_p3_ok K B1 s w @h) (by kernel_rfl) (by kernel_rfl) @h
def s24_p5 (K : Value → World → Prop) (B1 : List Value → World → Prop) (t0 t1 t2 t7 t13 t14 t15 : Value) (w : World) : Prop :=
  ixs 4 t13 t15 (fun t17 w =>
  ldn 4 t17 (fun t18 w =>
  nw 105 #[(.int .i64 0), (.int .i64 0), (.int .i64 0), (.int .i64 0)] (fun t9 w =>
  stn 4 t9 t18 (fun w =>
  s24_p4 K B1 t0 t1 t2 t7 t9 t13 t14 t15 w) w) w) w) w
def s24_p5_den (K : Value → World → Prop) (M1 : (Nat → Value) → World → Prop) : (Nat → Value) → World → Prop := denL Try.prog [(cd (Try.f24.body.getD .skip) [1, 1, 0, 1, 0, 0, 1, 1, 0, 0, 0])] (s24_p4_den K M1) (fun i => (bif Nat.beq i 1 then (s24_p2_den K M1) else (bif Nat.beq i 0 then (s24_p1_den K) else (fun _ _ => False)))) (s24_R K)
theorem s24_p5_ok (K : Value → World → Prop) (B1 : List Value → World → Prop) (s : Nat → Value) (w : World) (h : s24_p5 K B1 (s 0) (s 1) (s 2) (s 7) (s 13) (s 14) (s 15) w) : Tr (s24_p5_den K (fun s w => B1 [s 0, s 1, s 2, s 7, s 13, s 14, s 15] w) s w) :=
  tr_simple (P := Try.prog) (codes := [(cd (Try.f24.body.getD .skip) [1, 1, 0, 1, 0, 0, 1, 1, 0, 0, 0])]) (N := (fun s w => s24_p4 K B1 (s 0) (s 1) (s 2) (s 7) (s 9) (s 13) (s 14) (s 15) w)) (N' := (s24_p4_den K (fun s w => B1 [s 0, s 1, s 2, s 7, s 13, s 14, s 15] w))) (X := (fun i => (bif Nat.beq i 1 then (fun s w => s24_p2 K B1 (s 0) (s 1) (s 2) (s 7) (s 13) (s 14) (s 15) w) else (bif Nat.beq i 0 then (fun s w => s24_p1 K (s 7) w) else (fun _ _ => False))))) (X' := (fun i => (bif Nat.beq i 1 then (s24_p2_den K (fun s w => B1 [s 0, s 1, s 2, s 7, s 13, s 14, s 15] w)) else (bif Nat.beq i 0 then (s24_p1_den K) else (fun _ _ => False))))) (R := s24_R K) (s := s) (w := w) (p := s24_p5 K B1 (s 0) (s 1) (s 2) (s 7) (s 13) (s 14) (s 15) w) (q := s24_p5_den K (fun s w => B1 [s 0, s 1, s 2, s 7, s 13, s 14, s 15] w) s w) (fun s w h => s24_p4_ok K B1 s w @h) (fun i => (tr_bif (fun s w h => s24_p2_ok K B1 s w @h) (tr_bif (fun s w h => s24_p1_ok K s w @h) tr_id))) (by kernel_rfl) (by kernel_rfl) @h
def s24_p6 (K : Value → World → Prop) (B1 : List Value → World → Prop) (t0 t1 t2 t7 t13 t14 t15 : Value) (w : World) : Prop :=
  boI .lss t15 t14 (fun t16 w =>
  ifb t16
  (s24_p5 K B1 t0 t1 t2 t7 t13 t14 t15 w)
  (s24_p1 K t7 w)) w
def s24_p6_den (K : Value → World → Prop) (M1 : (Nat → Value) → World → Prop) : (Nat → Value) → World → Prop := denL Try.prog [(cd (Try.f24.body.getD .skip) [1, 1, 0, 1, 0, 0, 0]), (cd (Try.f24.body.getD .skip) [1, 1, 0, 1, 0, 0, 1, 0])] (s24_p5_den K M1) (fun i => (bif Nat.beq i 0 then (s24_p1_den K) else (fun _ _ => False))) (s24_R K)
theorem s24_p6_ok (K : Value → World → Prop) (B1 : List Value → World → Prop) (s : Nat → Value) (w : World) (h : s24_p6 K B1 (s 0) (s 1) (s 2) (s 7) (s 13) (s 14) (s 15) w) : Tr (s24_p6_den K (fun s w => B1 [s 0, s 1, s 2, s 7, s 13, s 14, s 15] w) s w) :=
  tr_simple (P := Try.prog) (codes := [(cd (Try.f24.body.getD .skip) [1, 1, 0, 1, 0, 0, 0]), (cd (Try.f24.body.getD .skip) [1, 1, 0, 1, 0, 0, 1, 0])]) (N := (fun s w => s24_p5 K B1 (s 0) (s 1) (s 2) (s 7) (s 13) (s 14) (s 15) w)) (N' := (s24_p5_den K (fun s w => B1 [s 0, s 1, s 2, s 7, s 13, s 14, s 15] w))) (X := (fun i => (bif Nat.beq i 0 then (fun s w => s24_p1 K (s 7) w) else (fun _ _ => False)))) (X' := (fun i => (bif Nat.beq i 0 then (s24_p1_den K) else (fun _ _ => False)))) (R := s24_R K) (s := s) (w := w) (p := s24_p6 K B1 (s 0) (s 1) (s 2) (s 7) (s 13) (s 14) (s 15) w) (q := s24_p6_den K (fun s w => B1 [s 0, s 1, s 2, s 7, s 13, s 14, s 15] w) s w) (fun s w h => s24_p5_ok K B1 s w @h) (fun i => (tr_bif (fun s w h => s24_p1_ok K s w @h) tr_id)) (by kernel_rfl) (by kernel_rfl) @h
def s24_p7_F (K : Value → World → Prop) (B1 : List Value → World → Prop) (l : List Value) (w : World) : Prop :=
  match l with
  | [t0, t1, t2, t7, t13, t14, t15] => s24_p6 K B1 t0 t1 t2 t7 t13 t14 t15 w
  | _ => False
theorem s24_p7_Fe {K : Value → World → Prop} {B1 : List Value → World → Prop} {t0 t1 t2 t7 t13 t14 t15 : Value} {w : World} : s24_p7_F K B1 [t0, t1, t2, t7, t13, t14, t15] w = s24_p6 K B1 t0 t1 t2 t7 t13 t14 t15 w := by kernel_rfl
def s24_p7 (K : Value → World → Prop) (t0 t1 t2 t7 t13 t14 t15 : Value) (w : World) : Prop :=
  LoopL (s24_p7_F K) [t0, t1, t2, t7, t13, t14, t15] w
def s24_p7_den (K : Value → World → Prop) : (Nat → Value) → World → Prop := fun s w => LoopP (fun M1 s w => s24_p6_den K M1 s w) s w
theorem s24_p7_ok (K : Value → World → Prop) (s : Nat → Value) (w : World) (h : s24_p7 K (s 0) (s 1) (s 2) (s 7) (s 13) (s 14) (s 15) w) : Tr (s24_p7_den K s w) :=
  tr_loop (G := fun N' s w => s24_p6_den K N' s w) (F := s24_p7_F K) (sel := fun s => [s 0, s 1, s 2, s 7, s 13, s 14, s 15]) (s := s) (w := w) (p := s24_p7 K (s 0) (s 1) (s 2) (s 7) (s 13) (s 14) (s 15) w) (q := s24_p7_den K s w) (fun B s w h => s24_p6_ok K B s w @h) (by kernel_rfl) (by kernel_rfl) @h
def s24_p8 (K : Value → World → Prop) (t0 t1 t2 : Value) (w : World) : Prop :=
  nck t0 (fun t11 w =>
  fd 4 t11 (fun t12 w =>
  ld1 t12 (fun t13 w =>
  lnS t13 (fun t14 w =>
  s24_p7 K t0 t1 t2 (.int .i64 0) t13 t14 (.int .i64 0) w) w) w) w) w
def s24_p8_den (K : Value → World → Prop) : (Nat → Value) → World → Prop := denL Try.prog [(cd (Try.f24.body.getD .skip) [0]), (cd (Try.f24.body.getD .skip) [1, 0]), (cd (Try.f24.body.getD .skip) [1, 1, 0, 0])] (s24_p7_den K) (fun i => (fun _ _ => False)) (s24_R K)
theorem s24_p8_ok (K : Value → World → Prop) (s : Nat → Value) (w : World) (h : s24_p8 K (s 0) (s 1) (s 2) w) : Tr (s24_p8_den K s w) :=
  tr_simple (P := Try.prog) (codes := [(cd (Try.f24.body.getD .skip) [0]), (cd (Try.f24.body.getD .skip) [1, 0]), (cd (Try.f24.body.getD .skip) [1, 1, 0, 0])]) (N := (fun s w => s24_p7 K (s 0) (s 1) (s 2) (s 7) (s 13) (s 14) (s 15) w)) (N' := (s24_p7_den K)) (X := (fun i => (fun _ _ => False))) (X' := (fun i => (fun _ _ => False))) (R := s24_R K) (s := s) (w := w) (p := s24_p8 K (s 0) (s 1) (s 2) w) (q := s24_p8_den K s w) (fun s w h => s24_p7_ok K s w @h) (fun i => tr_id) (by kernel_rfl) (by kernel_rfl) @h
/-- the call, from the text -/
theorem c24 (t0 t1 t2 : Value) {K : Value → World → Prop} {w : World} (h : s24_p8 K t0 t1 t2 w) : cl Try.prog 24 #[t0, t1, t2] K w :=
  calls_of_tr (c := (Try.f24.body.getD .skip)) (fn := Try.f24) (q := s24_p8_den K (st0 #[t0, t1, t2]) w) Try.func24 (by kernel_rfl) (by kernel_rfl) (Nat.le_of_ble_eq_true (by kernel_rfl)) (by kernel_rfl) (by kernel_rfl) (s24_p8_ok K (st0 #[t0, t1, t2]) w @h)

/-! ### function 25 : e2e.slotslaw.wellFormed -/
def s25_R (K : Value → World → Prop) (s : Nat → Value) (w : World) : Prop := retv Try.prog s Try.f25.results.toList (fun vs => K (pack vs) w) w
def s25_p1 (K : Value → World → Prop) (t0 t1 : Value) (w : World) : Prop :=
  nw 34 (t0).cells (fun t2 w =>
  cl Try.prog 16 #[] (fun t6 w =>
  nw 30 #[(.int .i64 0), (.int .i64 0), (.slice none 0 0)] (fun t5 w =>
  stn 3 t5 t6 (fun w =>
  fd 1 t2 (fun t7 w =>
  ld1 t7 (fun t8 w =>
  boI .geq t8 (.int .i64 0) (fun t9 w =>
  gd t9 true (fd 1 t2) (fun t11 w =>
  gd t9 true (ld1 t11) (fun t12 w =>
  gd t9 true (fd 2 t5) (fun t13 w =>
  gd t9 true (ld1 t13) (fun t14 w =>
  gd t9 true (lnS t14) (fun t15 w =>
  gd t9 true (boI .lss t12 t15) (fun t16 w =>
  pk t9 t16 (.bool false) (fun t17 w =>
  gd t17 true (fd 4 t2) (fun t19 w =>
  gd t17 true (ld1 t19) (fun t20 w =>
  gd t17 true (boI .geq t20 (.int .i64 0)) (fun t21 w =>
  pk t17 t21 (.bool false) (fun t22 w =>
  gd t22 true (fd 4 t2) (fun t24 w =>
  gd t22 true (ld1 t24) (fun t25 w =>
  gd t22 true (boI .lss t25 (.int .i64 3)) (fun t26 w =>
  pk t22 t26 (.bool false) (fun t27 w =>
  gd t27 true (fd 5 t2) (fun t29 w =>
  gd t27 true (ld1 t29) (fun t30 w =>
  gd t27 true (boI .geq t30 (.int .i64 1)) (fun t31 w =>
  pk t27 t31 (.bool false) (fun t32 w =>
  gd t32 true (fd 2 t2) (fun t34 w =>
  gd t32 true (ld1 t34) (fun t35 w =>
  gd t32 true (fun K w => K t1 w) (fun t36 w =>
  gd t32 true (boI .geq t35 t36) (fun t37 w =>
  pk t32 t37 (.bool false) (fun t38 w =>
  gd t38 true (fd 2 t2) (fun t40 w =>
  gd t38 true (ld1 t40) (fun t41 w =>
  gd t38 true (fun K w => K t1 w) (fun t42 w =>
  gd t38 true (fd 0 t5) (fun t43 w =>
  gd t38 true (ld1 t43) (fun t44 w =>
  gd t38 true (boI .add t42 t44) (fun t45 w =>
  gd t38 true (boI .lss t41 t45) (fun t46 w =>
  pk t38 t46 (.bool false) (fun t47 w =>
  K t47 w) w) w) w) w) w) w) w) w) w) w) w) w) w) w) w) w) w) w) w) w) w) w) w) w) w) w) w) w) w) w) w) w) w) w) w) w) w) w) w
def s25_p1_den (K : Value → World → Prop) : (Nat → Value) → World → Prop := denL Try.prog [(cd (Try.f25.body.getD .skip) [0]), (cd (Try.f25.body.getD .skip) [1, 0]), (cd (Try.f25.body.getD .skip) [1, 1, 0]), (cd (Try.f25.body.getD .skip) [1, 1, 1])] (fun _ _ => False) (fun i => (fun _ _ => False)) (s25_R K)
theorem s25_p1_ok (K : Value → World → Prop) (s : Nat → Value) (w : World) (h : s25_p1 K (s 0) (s 1) w) : Tr (s25_p1_den K s w) :=
  tr_simple (P := Try.prog) (codes := [(cd (Try.f25.body.getD .skip) [0]), (cd (Try.f25.body.getD .skip) [1, 0]), (cd (Try.f25.body.getD .skip) [1, 1, 0]), (cd (Try.f25.body.getD .skip) [1, 1, 1])]) (N := (fun _ _ => False)) (N' := (fun _ _ => False)) (X := (fun i => (fun _ _ => False))) (X' := (fun i => (fun _ _ => False))) (R := s25_R K) (s := s) (w := w) (p := s25_p1 K (s 0) (s 1) w) (q := s25_p1_den K s w) tr_id (fun i => tr_id) (by kernel_rfl) (by kernel_rfl) @h
/-- the call, from the text -/
theorem c25 (t0 t1 : Value) {K : Value → World → Prop} {w : World} (h : s25_p1 K t0 t1 w) : cl Try.prog 25 #[t0, t1] K w :=
  calls_of_tr (c := (Try.f25.body.getD .skip)) (fn := Try.f25) (q := s25_p1_den K (st0 #[t0, t1]) w) Try.func25 (by kernel_rfl) (by kernel_rfl) (Nat.le_of_ble_eq_true (by kernel_rfl)) (by kernel_rfl) (by kernel_rfl) (s25_p1_ok K (st0 #[t0, t1]) w @h)

/-! ### function 26 : (e2e.slotslaw.view).at -/
def s26_R (K : Value → World → Prop) (s : Nat → Value) (w : World) : Prop := retv Try.prog s Try.f26.results.toList (fun vs => K (pack vs) w) w
def s26_p1 (K : Value → World → Prop) (t0 t1 t2 : Value) (w : World) : Prop :=
  nw 43 (t0).cells (fun t3 w =>
  nw 61 #[(.int .i64 0), (.int .i64 0), (.int .i64 0), (.int .i64 0)] (fun t6 w =>
  fd 2 t3 (fun t10 w =>
  ld1 t10 (fun t11 w =>
  ixs 1 t11 t1 (fun t13 w =>
  ld1 t13 (fun t14 w =>
  boI .sub t2 t14 (fun t15 w =>
  boI .lss t15 (.int .i64 0) (fun t17 w =>
  gd t17 false (fun K w => K t15 w) (fun t19 w =>
  gd t17 false (fd 3 t3) (fun t20 w =>
  gd t17 false (ld1 t20) (fun t21 w =>
  gd t17 false (fun K w => K t1 w) (fun t22 w =>
  gd t17 false (ixs 1 t21 t22) (fun t23 w =>
  gd t17 false (ld1 t23) (fun t24 w =>
  gd t17 false (lnS t24) (fun t25 w =>
  gd t17 false (boI .geq t19 t25) (fun t26 w =>
  pk t17 (.bool true) t26 (fun t27 w =>
  ifb t27
  (bdq [(.int .i64 0), (.int .i64 0), (.int .i64 0), (.int .i64 0)] [] (fun t28 w =>
  stn 4 t6 t28 (fun w =>
  ldn 4 t6 (fun r0 _ =>
  K (.tuple #[r0, (.bool false)]) w) w) w) w)
  (fd 3 t3 (fun t29 w =>
  ld1 t29 (fun t30 w =>
  ixs 1 t30 t1 (fun t32 w =>
  ld1 t32 (fun t33 w =>
  ixs 4 t33 t15 (fun t35 w =>
  ldn 4 t35 (fun t36 w =>
  stn 4 t6 t36 (fun w =>
  ldn 4 t6 (fun r0 _ =>
  K (.tuple #[r0, (.bool true)]) w) w) w) w) w) w) w) w) w)) w) w) w) w) w) w) w) w) w) w) w) w) w) w) w) w) w
def s26_p1_den (K : Value → World → Prop) : (Nat → Value) → World → Prop := denL Try.prog [(cd (Try.f26.body.getD .skip) [0]), (cd (Try.f26.body.getD .skip) [1, 0]), (cd (Try.f26.body.getD .skip) [1, 1, 0, 0]), (cd (Try.f26.body.getD .skip) [1, 1, 0, 1]), (cd (Try.f26.body.getD .skip) [1, 1, 1, 0]), (cd (Try.f26.body.getD .skip) [1, 1, 1, 1])] (fun _ _ => False) (fun i => (fun _ _ => False)) (s26_R K)
theorem s26_p1_ok (K : Value → World → Prop) (s : Nat → Value) (w : World) (h : s26_p1 K (s 0) (s 1) (s 2) w) : Tr (s26_p1_den K s w) :=
  tr_simple (P := Try.prog) (codes := [(cd (Try.f26.body.getD .skip) [0]), (cd (Try.f26.body.getD .skip) [1, 0]), (cd (Try.f26.body.getD .skip) [1, 1, 0, 0]), (cd (Try.f26.body.getD .skip) [1, 1, 0, 1]), (cd (Try.f26.body.getD .skip) [1, 1, 1, 0]), (cd (Try.f26.body.getD .skip) [1, 1, 1, 1])]) (N := (fun _ _ => False)) (N' := (fun _ _ => False)) (X := (fun i => (fun _ _ => False))) (X' := (fun i => (fun _ _ => False))) (R := s26_R K) (s := s) (w := w) (p := s26_p1 K (s 0) (s 1) (s 2) w) (q := s26_p1_den K s w) tr_id (fun i => tr_id) (by kernel_rfl) (by kernel_rfl) @h
/-- the call, from the text -/
theorem c26 (t0 t1 t2 : Value) {K : Value → World → Prop} {w : World} (h : s26_p1 K t0 t1 t2 w) : cl Try.prog 26 #[t0, t1, t2] K w :=
  calls_of_tr (c := (Try.f26.body.getD .skip)) (fn := Try.f26) (q := s26_p1_den K (st0 #[t0, t1, t2]) w) Try.func26 (by kernel_rfl) (by kernel_rfl) (Nat.le_of_ble_eq_true (by kernel_rfl)) (by kernel_rfl) (by kernel_rfl) (s26_p1_ok K (st0 #[t0, t1, t2]) w @h)

/-! ### function 27 : e2e.slotslaw.book -/
def s27_R (K : Value → World → Prop) (s : Nat → Value) (w : World) : Prop := retv Try.prog s Try.f27.results.toList (fun vs => K (pack vs) w) w
def s27_p1 (K : Value → World → Prop) (B1 : List Value → World → Prop) (t2 t3 t4 t6 t7 t43 : Value) (w : World) : Prop :=
  ifb t43
  (fd 3 t3 (fun t46 w =>
  ld1 t46 (fun t47 w =>
  fd 1 t4 (fun t48 w =>
  ld1 t48 (fun t49 w =>
  ixs 1 t47 t49 (fun t50 w =>
  ld1 t50 (fun t51 w =>
  boI .add t6 t7 (fun t54 w =>
  ixs 4 t51 t54 (fun t55 w =>
  fd 0 t55 (fun t56 w =>
  ld1 t56 (fun t57 w =>
  boI .add t57 t2 (fun t59 w =>
  ixs 4 t51 t54 (fun t60 w =>
  fd 0 t60 (fun t61 w =>
  st1 t61 t59 (fun w =>
  boI .add t7 (.int .i64 1) (fun t45 w =>
  B1 [t2, t3, t4, t6, t45] w) w) w) w) w) w) w) w) w) w) w) w) w) w) w) w)
  (K (.tuple #[]) w)
def s27_p1_den (K : Value → World → Prop) (M1 : (Nat → Value) → World → Prop) : (Nat → Value) → World → Prop := denL Try.prog [(cd (Try.f27.body.getD .skip) [1, 1, 1, 1, 0, 0, 0, 1]), (cd (Try.f27.body.getD .skip) [1, 1, 1, 1, 0, 0, 1, 0]), (cd (Try.f27.body.getD .skip) [1, 1, 1, 1, 0, 0, 1, 1])] M1 (fun i => (bif Nat.beq i 0 then (s27_R K) else (fun _ _ => False))) (s27_R K)
theorem s27_p1_ok (K : Value → World → Prop) (B1 : List Value → World → Prop) (s : Nat → Value) (w : World) (h : s27_p1 K B1 (s 2) (s 3) (s 4) (s 6) (s 7) (s 43) w) : Tr (s27_p1_den K (fun s w => B1 [s 2, s 3, s 4, s 6, s 7] w) s w) :=
  tr_simple (P := Try.prog) (codes := [(cd (Try.f27.body.getD .skip) [1, 1, 1, 1, 0, 0, 0, 1]), (cd (Try.f27.body.getD .skip) [1, 1, 1, 1, 0, 0, 1, 0]), (cd (Try.f27.body.getD .skip) [1, 1, 1, 1, 0, 0, 1, 1])]) (N := (fun s w => B1 [s 2, s 3, s 4, s 6, s 7] w)) (N' := (fun s w => B1 [s 2, s 3, s 4, s 6, s 7] w)) (X := (fun i => (bif Nat.beq i 0 then (s27_R K) else (fun _ _ => False)))) (X' := (fun i => (bif Nat.beq i 0 then (s27_R K) else (fun _ _ => False)))) (R := s27_R K) (s := s) (w := w) (p := s27_p1 K B1 (s 2) (s 3) (s 4) (s 6) (s 7) (s 43) w) (q := s27_p1_den K (fun s w => B1 [s 2, s 3, s 4, s 6, s 7] w) s w) tr_id (fun i => (tr_bif tr_id tr_id)) (by kernel_rfl) (by kernel_rfl) @h
def s27_p2_d (K : Value → World → Prop) (B1 : List Value → World → Prop) (t2 t3 t4 t6 t7 : Value) (w0 w : World) : Prop :=
  fd 1 t4 (fun t38 _ =>
  ld1 t38 (fun t39 _ =>
  cl Try.prog 16 #[] (fun t36 w =>
  Below w0.heap.size w0 w ∧
  fi Try.prog 30 t36 2 (fun t37 w =>
  Below w0.heap.size w0 w ∧
  ixs 5 t37 t39 (fun t40 w =>
  Below w0.heap.size w0 w ∧
  fd 1 t40 (fun t41 w =>
  Below w0.heap.size w0 w ∧
  ld1 t41 (fun t42 w =>
  Below w0.heap.size w0 w ∧
  boI .lss t7 t42 (fun t43 w =>
  s27_p1 K B1 t2 t3 t4 t6 t7 t43 w) w) w) w) w) w) w) w0) w0
def s27_p2 (K : Value → World → Prop) (B1 : List Value → World → Prop) (t2 t3 t4 t6 t7 : Value) (w : World) : Prop := s27_p2_d K B1 t2 t3 t4 t6 t7 (drw w) (drw w)
def s27_p2_den (K : Value → World → Prop) (M1 : (Nat → Value) → World → Prop) : (Nat → Value) → World → Prop := denL Try.prog [(cd (Try.f27.body.getD .skip) [1, 1, 1, 1, 0, 0, 0, 0])] (s27_p1_den K M1) (fun i => (bif Nat.beq i 0 then (s27_R K) else (fun _ _ => False))) (s27_R K)
theorem s27_p2_ok (K : Value → World → Prop) (B1 : List Value → World → Prop) (s : Nat → Value) (w : World) (h : s27_p2 K B1 (s 2) (s 3) (s 4) (s 6) (s 7) w) : Tr (s27_p2_den K (fun s w => B1 [s 2, s 3, s 4, s 6, s 7] w) s w) :=
  tr_draw (P := Try.prog) (ops := (ro (cd (Try.f27.body.getD .skip) [1, 1, 1, 1, 0, 0, 0, 0]))) (ms := [0, 0, 2, 0, 8, 30, 62, 126, 255]) (cs := [0, 3, 4]) (N := (fun s w => s27_p1 K B1 (s 2) (s 3) (s 4) (s 6) (s 7) (s 43) w)) (N' := (s27_p1_den K (fun s w => B1 [s 2, s 3, s 4, s 6, s 7] w))) (s := s) (w := w) (p := s27_p2 K B1 (s 2) (s 3) (s 4) (s 6) (s 7) w) (q := s27_p2_den K (fun s w => B1 [s 2, s 3, s 4, s 6, s 7] w) s w) (by kernel_rfl) (by kernel_rfl) (fun s w h => s27_p1_ok K B1 s w @h) (by kernel_rfl) (by kernel_rfl) @h
def s27_p3_F (K : Value → World → Prop) (B1 : List Value → World → Prop) (l : List Value) (w : World) : Prop :=
  match l with
  | [t2, t3, t4, t6, t7] => s27_p2 K B1 t2 t3 t4 t6 t7 w
  | _ => False
theorem s27_p3_Fe {K : Value → World → Prop} {B1 : List Value → World → Prop} {t2 t3 t4 t6 t7 : Value} {w : World} : s27_p3_F K B1 [t2, t3, t4, t6, t7] w = s27_p2 K B1 t2 t3 t4 t6 t7 w := by kernel_rfl
def s27_p3 (K : Value → World → Prop) (t2 t3 t4 t6 t7 : Value) (w : World) : Prop :=
  LoopL (s27_p3_F K) [t2, t3, t4, t6, t7] w
def s27_p3_den (K : Value → World → Prop) : (Nat → Value) → World → Prop := fun s w => LoopP (fun M1 s w => s27_p2_den K M1 s w) s w
theorem s27_p3_ok (K : Value → World → Prop) (s : Nat → Value) (w : World) (h : s27_p3 K (s 2) (s 3) (s 4) (s 6) (s 7) w) : Tr (s27_p3_den K s w) :=
  tr_loop (G := fun N' s w => s27_p2_den K N' s w) (F := s27_p3_F K) (sel := fun s => [s 2, s 3, s 4, s 6, s 7]) (s := s) (w := w) (p := s27_p3 K (s 2) (s 3) (s 4) (s 6) (s 7) w) (q := s27_p3_den K s w) (fun B s w h => s27_p2_ok K B s w @h) (by kernel_rfl) (by kernel_rfl) @h
def s27_p4 (K : Value → World → Prop) (t2 t3 t4 t6 : Value) (w : World) : Prop :=
  s27_p3 K t2 t3 t4 t6 (.int .i64 0) w
def s27_p4_den (K : Value → World → Prop) : (Nat → Value) → World → Prop := denL Try.prog [(cd (Try.f27.body.getD .skip) [1, 1, 1, 0])] (s27_p3_den K) (fun i => (fun _ _ => False)) (s27_R K)
theorem s27_p4_ok (K : Value → World → Prop) (s : Nat → Value) (w : World) (h : s27_p4 K (s 2) (s 3) (s 4) (s 6) w) : Tr (s27_p4_den K s w) :=
  tr_simple (P := Try.prog) (codes := [(cd (Try.f27.body.getD .skip) [1, 1, 1, 0])]) (N := (fun s w => s27_p3 K (s 2) (s 3) (s 4) (s 6) (s 7) w)) (N' := (s27_p3_den K)) (X := (fun i => (fun _ _ => False))) (X' := (fun i => (fun _ _ => False))) (R := s27_R K) (s := s) (w := w) (p := s27_p4 K (s 2) (s 3) (s 4) (s 6) w) (q := s27_p4_den K s w) (fun s w h => s27_p3_ok K s w @h) (fun i => tr_id) (by kernel_rfl) (by kernel_rfl) @h
def s27_p5_d (K : Value → World → Prop) (t2 t3 t4 t6 : Value) (w0 w : World) : Prop :=
  fd 3 t3 (fun t17 _ =>
  ld1 t17 (fun t18 _ =>
  fd 1 t4 (fun t19 _ =>
  ld1 t19 (fun t20 _ =>
  ixs 1 t18 t20 (fun t21 _ =>
  ld1 t21 (fun t22 _ =>
  fd 4 t4 (fun t24 _ =>
  ld1 t24 (fun t25 _ =>
  ixs 4 t22 t6 (fun t26 _ =>
  fd 1 t26 (fun t27 _ =>
  ixa 3 1 t27 t25 (fun t28 _ =>
  ld1 t28 (fun t29 _ =>
  boI .add t29 t2 (fun t31 _ =>
  ixs 4 t22 t6 (fun t32 _ =>
  fd 1 t32 (fun t33 _ =>
  ixa 3 1 t33 t25 (fun t34 _ =>
  st1 t34 t31 (fun w =>
  s27_p4 K t2 t3 t4 t6 w) w) w0) w0) w0) w0) w0) w0) w0) w0) w0) w0) w0) w0) w0) w0) w0) w0
def s27_p5 (K : Value → World → Prop) (t2 t3 t4 t6 : Value) (w : World) : Prop := s27_p5_d K t2 t3 t4 t6 (drw w) (drw w)
def s27_p5_den (K : Value → World → Prop) : (Nat → Value) → World → Prop := denL Try.prog [(cd (Try.f27.body.getD .skip) [1, 1, 0])] (s27_p4_den K) (fun i => (fun _ _ => False)) (s27_R K)
theorem s27_p5_ok (K : Value → World → Prop) (s : Nat → Value) (w : World) (h : s27_p5 K (s 2) (s 3) (s 4) (s 6) w) : Tr (s27_p5_den K s w) :=
  tr_draw (P := Try.prog) (ops := (ro (cd (Try.f27.body.getD .skip) [1, 1, 0]))) (ms := [0, 1, 0, 4, 15, 31, 0, 0, 128, 127, 639, 2047, 4095, 0, 16383, 127, 32895, 131071, 262143]) (cs := [0, 1, 2, 3, 4, 5, 6, 7, 8, 9, 10, 11, 12, 13, 14, 15, 16, 17]) (N := (fun s w => s27_p4 K (s 2) (s 3) (s 4) (s 6) w)) (N' := (s27_p4_den K)) (s := s) (w := w) (p := s27_p5 K (s 2) (s 3) (s 4) (s 6) w) (q := s27_p5_den K s w) (by kernel_rfl) (by kernel_rfl) (fun s w h => s27_p4_ok K s w @h) (by kernel_rfl) (by kernel_rfl) @h
def s27_p6_d (K : Value → World → Prop) (t2 t3 t4 : Value) (w0 w : World) : Prop :=
  fd 2 t4 (fun t8 _ =>
  ld1 t8 (fun t9 _ =>
  fd 2 t3 (fun t10 _ =>
  ld1 t10 (fun t11 _ =>
  fd 1 t4 (fun t12 _ =>
  ld1 t12 (fun t13 _ =>
  ixs 1 t11 t13 (fun t14 _ =>
  ld1 t14 (fun t15 _ =>
  boI .sub t9 t15 (fun t16 _ =>
  s27_p5 K t2 t3 t4 t16 w) w0) w0) w0) w0) w0) w0) w0) w0) w0
def s27_p6 (K : Value → World → Prop) (t2 t3 t4 : Value) (w : World) : Prop := s27_p6_d K t2 t3 t4 (drw w) (drw w)
def s27_p6_den (K : Value → World → Prop) : (Nat → Value) → World → Prop := denL Try.prog [(cd (Try.f27.body.getD .skip) [1, 0])] (s27_p5_den K) (fun i => (fun _ _ => False)) (s27_R K)
theorem s27_p6_ok (K : Value → World → Prop) (s : Nat → Value) (w : World) (h : s27_p6 K (s 2) (s 3) (s 4) w) : Tr (s27_p6_den K s w) :=
  tr_draw (P := Try.prog) (ops := (ro (cd (Try.f27.body.getD .skip) [1, 0]))) (ms := [0, 1, 0, 4, 0, 16, 60, 124, 255, 511]) (cs := [0, 1, 2, 3, 4, 5, 6, 7, 8, 9]) (N := (fun s w => s27_p5 K (s 2) (s 3) (s 4) (s 6) w)) (N' := (s27_p5_den K)) (s := s) (w := w) (p := s27_p6 K (s 2) (s 3) (s 4) w) (q := s27_p6_den K s w) (by kernel_rfl) (by kernel_rfl) (fun s w h => s27_p5_ok K s w @h) (by kernel_rfl) (by kernel_rfl) @h
def s27_p7 (K : Value → World → Prop) (t0 t1 t2 : Value) (w : World) : Prop :=
  nw 43 (t0).cells (fun t3 w =>
  nw 34 (t1).cells (fun t4 w =>
  s27_p6 K t2 t3 t4 w) w) w
def s27_p7_den (K : Value → World → Prop) : (Nat → Value) → World → Prop := denL Try.prog [(cd (Try.f27.body.getD .skip) [0])] (s27_p6_den K) (fun i => (fun _ _ => False)) (s27_R K)
theorem s27_p7_ok (K : Value → World → Prop) (s : Nat → Value) (w : World) (h : s27_p7 K (s 0) (s 1) (s 2) w) : Tr (s27_p7_den K s w) :=
  tr_simple (P := Try.prog) (codes := [(cd (Try.f27.body.getD .skip) [0])]) (N := (fun s w => s27_p6 K (s 2) (s 3) (s 4) w)) (N' := (s27_p6_den K)) (X := (fun i => (fun _ _ => False))) (X' := (fun i => (fun _ _ => False))) (R := s27_R K) (s := s) (w := w) (p := s27_p7 K (s 0) (s 1) (s 2) w) (q := s27_p7_den K s w) (fun s w h => s27_p6_ok K s w @h) (fun i => tr_id) (by kernel_rfl) (by kernel_rfl) @h
/-- the call, from the text -/
theorem c27 (t0 t1 t2 : Value) {K : Value → World → Prop} {w : World} (h : s27_p7 K t0 t1 t2 w) : cl Try.prog 27 #[t0, t1, t2] K w :=
  calls_of_tr (c := (Try.f27.body.getD .skip)) (fn := Try.f27) (q := s27_p7_den K (st0 #[t0, t1, t2]) w) Try.func27 (by kernel_rfl) (by kernel_rfl) (Nat.le_of_ble_eq_true (by kernel_rfl)) (by kernel_rfl) (by kernel_rfl) (s27_p7_ok K (st0 #[t0, t1, t2]) w @h)

/-! ### function 28 : (*e2e.slots.Tables).Release -/
def s28_R (K : Value → World → Prop) (s : Nat → Value) (w : World) : Prop := retv Try.prog s Try.f28.results.toList (fun vs => K (pack vs) w) w
def s28_p1 (K : Value → World → Prop) (t1 t2 t3 t4 t12 : Value) (w : World) : Prop :=
  cl Try.prog 63 #[t12, (.string ⟨#[82, 101, 108, 101, 97, 115, 101]⟩), t1, t2, t3, t4] (fun t45 w =>
  K t45 w) w
def s28_p1_den (K : Value → World → Prop) : (Nat → Value) → World → Prop := denL Try.prog [(cd (Try.f28.body.getD .skip) [1, 1, 1, 1, 0]), (cd (Try.f28.body.getD .skip) [1, 1, 1, 1, 1])] (fun _ _ => False) (fun i => (fun _ _ => False)) (s28_R K)
theorem s28_p1_ok (K : Value → World → Prop) (s : Nat → Value) (w : World) (h : s28_p1 K (s 1) (s 2) (s 3) (s 4) (s 12) w) : Tr (s28_p1_den K s w) :=
  tr_simple (P := Try.prog) (codes := [(cd (Try.f28.body.getD .skip) [1, 1, 1, 1, 0]), (cd (Try.f28.body.getD .skip) [1, 1, 1, 1, 1])]) (N := (fun _ _ => False)) (N' := (fun _ _ => False)) (X := (fun i => (fun _ _ => False))) (X' := (fun i => (fun _ _ => False))) (R := s28_R K) (s := s) (w := w) (p := s28_p1 K (s 1) (s 2) (s 3) (s 4) (s 12) w) (q := s28_p1_den K s w) tr_id (fun i => tr_id) (by kernel_rfl) (by kernel_rfl) @h
def s28_p2 (K : Value → World → Prop) (t1 t2 t3 t4 t11 t12 : Value) (w : World) : Prop :=
  boI .eql t12 (.int .i64 0) (fun t33 w =>
  ifb t33
  (un .neg t4 (fun t38 w =>
  cl Try.prog 66 #[t11, t2, t3, t38] (fun t39 w =>
  s28_p1 K t1 t2 t3 t4 t12 w) w) w)
  (s28_p1 K t1 t2 t3 t4 t12 w)) w
def s28_p2_den (K : Value → World → Prop) : (Nat → Value) → World → Prop := denL Try.prog [(cd (Try.f28.body.getD .skip) [1, 1, 1, 0, 0]), (cd (Try.f28.body.getD .skip) [1, 1, 1, 0, 1])] (s28_p1_den K) (fun i => (fun _ _ => False)) (s28_R K)
theorem s28_p2_ok (K : Value → World → Prop) (s : Nat → Value) (w : World) (h : s28_p2 K (s 1) (s 2) (s 3) (s 4) (s 11) (s 12) w) : Tr (s28_p2_den K s w) :=
  tr_simple (P := Try.prog) (codes := [(cd (Try.f28.body.getD .skip) [1, 1, 1, 0, 0]), (cd (Try.f28.body.getD .skip) [1, 1, 1, 0, 1])]) (N := (fun s w => s28_p1 K (s 1) (s 2) (s 3) (s 4) (s 12) w)) (N' := (s28_p1_den K)) (X := (fun i => (fun _ _ => False))) (X' := (fun i => (fun _ _ => False))) (R := s28_R K) (s := s) (w := w) (p := s28_p2 K (s 1) (s 2) (s 3) (s 4) (s 11) (s 12) w) (q := s28_p2_den K s w) (fun s w h => s28_p1_ok K s w @h) (fun i => tr_id) (by kernel_rfl) (by kernel_rfl) @h
def s28_p3 (K : Value → World → Prop) (t0 t1 t2 t3 t4 : Value) (w : World) : Prop :=
  cl Try.prog 62 #[t0, t1, t2, t3, t4, (.int .i64 1)] (fun t19 w =>
  exq t19 0 (fun t20 w =>
  exq t19 1 (fun t21 w =>
  boI .eql t21 (.int .i64 0) (fun t23 w =>
  gd t23 true (fun K w => K t4 w) (fun t25 w =>
  gd t23 true (fun K w => K t20 w) (fun t26 w =>
  gd t23 true (fun K w => K t2 w) (fun t27 w =>
  gd t23 true (fun K w => K t3 w) (fun t28 w =>
  gd t23 true (cl Try.prog 65 #[t26, t27, t28]) (fun t29 w =>
  gd t23 true (boI .gtr t25 t29) (fun t30 w =>
  pk t23 t30 (.bool false) (fun t31 w =>
  ifb t31
  (s28_p2 K t1 t2 t3 t4 t20 (.int .i64 7) w)
  (s28_p2 K t1 t2 t3 t4 t20 t21 w)) w) w) w) w) w) w) w) w) w) w) w
def s28_p3_den (K : Value → World → Prop) : (Nat → Value) → World → Prop := denL Try.prog [(cd (Try.f28.body.getD .skip) [0]), (cd (Try.f28.body.getD .skip) [1, 0]), (cd (Try.f28.body.getD .skip) [1, 1, 0, 0]), (cd (Try.f28.body.getD .skip) [1, 1, 0, 1])] (s28_p2_den K) (fun i => (fun _ _ => False)) (s28_R K)
theorem s28_p3_ok (K : Value → World → Prop) (s : Nat → Value) (w : World) (h : s28_p3 K (s 0) (s 1) (s 2) (s 3) (s 4) w) : Tr (s28_p3_den K s w) :=
  tr_simple (P := Try.prog) (codes := [(cd (Try.f28.body.getD .skip) [0]), (cd (Try.f28.body.getD .skip) [1, 0]), (cd (Try.f28.body.getD .skip) [1, 1, 0, 0]), (cd (Try.f28.body.getD .skip) [1, 1, 0, 1])]) (N := (fun s w => s28_p2 K (s 1) (s 2) (s 3) (s 4) (s 11) (s 12) w)) (N' := (s28_p2_den K)) (X := (fun i => (fun _ _ => False))) (X' := (fun i => (fun _ _ => False))) (R := s28_R K) (s := s) (w := w) (p := s28_p3 K (s 0) (s 1) (s 2) (s 3) (s 4) w) (q := s28_p3_den K s w) (fun s w h => s28_p2_ok K s w @h) (fun i => tr_id) (by kernel_rfl) (by kernel_rfl) @h
/-- the call, from the text -/
theorem c28 (t0 t1 t2 t3 t4 : Value) {K : Value → World → Prop} {w : World} (h : s28_p3 K t0 t1 t2 t3 t4 w) : cl Try.prog 28 #[t0, t1, t2, t3, t4] K w :=
  calls_of_tr (c := (Try.f28.body.getD .skip)) (fn := Try.f28) (q := s28_p3_den K (st0 #[t0, t1, t2, t3, t4]) w) Try.func28 (by kernel_rfl) (by kernel_rfl) (Nat.le_of_ble_eq_true (by kernel_rfl)) (by kernel_rfl) (by kernel_rfl) (s28_p3_ok K (st0 #[t0, t1, t2, t3, t4]) w @h)

/-! ### function 29 : (*e2e.slots.Tables).Admit -/
def s29_R (K : Value → World → Prop) (s : Nat → Value) (w : World) : Prop := retv Try.prog s Try.f29.results.toList (fun vs => K (pack vs) w) w
def s29_p1 (K : Value → World → Prop) (t1 t2 t3 t4 t12 : Value) (w : World) : Prop :=
  cl Try.prog 63 #[t12, (.string ⟨#[65, 100, 109, 105, 116]⟩), t1, t2, t3, t4] (fun t41 w =>
  K t41 w) w
def s29_p1_den (K : Value → World → Prop) : (Nat → Value) → World → Prop := denL Try.prog [(cd (Try.f29.body.getD .skip) [1, 1, 1, 1, 0]), (cd (Try.f29.body.getD .skip) [1, 1, 1, 1, 1])] (fun _ _ => False) (fun i => (fun _ _ => False)) (s29_R K)
theorem s29_p1_ok (K : Value → World → Prop) (s : Nat → Value) (w : World) (h : s29_p1 K (s 1) (s 2) (s 3) (s 4) (s 12) w) : Tr (s29_p1_den K s w) :=
  tr_simple (P := Try.prog) (codes := [(cd (Try.f29.body.getD .skip) [1, 1, 1, 1, 0]), (cd (Try.f29.body.getD .skip) [1, 1, 1, 1, 1])]) (N := (fun _ _ => False)) (N' := (fun _ _ => False)) (X := (fun i => (fun _ _ => False))) (X' := (fun i => (fun _ _ => False))) (R := s29_R K) (s := s) (w := w) (p := s29_p1 K (s 1) (s 2) (s 3) (s 4) (s 12) w) (q := s29_p1_den K s w) tr_id (fun i => tr_id) (by kernel_rfl) (by kernel_rfl) @h
def s29_p2 (K : Value → World → Prop) (t1 t2 t3 t4 t11 t12 : Value) (w : World) : Prop :=
  boI .eql t12 (.int .i64 0) (fun t30 w =>
  ifb t30
  (cl Try.prog 66 #[t11, t2, t3, t4] (fun t35 w =>
  s29_p1 K t1 t2 t3 t4 t12 w) w)
  (s29_p1 K t1 t2 t3 t4 t12 w)) w
def s29_p2_den (K : Value → World → Prop) : (Nat → Value) → World → Prop := denL Try.prog [(cd (Try.f29.body.getD .skip) [1, 1, 1, 0, 0]), (cd (Try.f29.body.getD .skip) [1, 1, 1, 0, 1])] (s29_p1_den K) (fun i => (fun _ _ => False)) (s29_R K)
theorem s29_p2_ok (K : Value → World → Prop) (s : Nat → Value) (w : World) (h : s29_p2 K (s 1) (s 2) (s 3) (s 4) (s 11) (s 12) w) : Tr (s29_p2_den K s w) :=
  tr_simple (P := Try.prog) (codes := [(cd (Try.f29.body.getD .skip) [1, 1, 1, 0, 0]), (cd (Try.f29.body.getD .skip) [1, 1, 1, 0, 1])]) (N := (fun s w => s29_p1 K (s 1) (s 2) (s 3) (s 4) (s 12) w)) (N' := (s29_p1_den K)) (X := (fun i => (fun _ _ => False))) (X' := (fun i => (fun _ _ => False))) (R := s29_R K) (s := s) (w := w) (p := s29_p2 K (s 1) (s 2) (s 3) (s 4) (s 11) (s 12) w) (q := s29_p2_den K s w) (fun s w h => s29_p1_ok K s w @h) (fun i => tr_id) (by kernel_rfl) (by kernel_rfl) @h
def s29_p3 (K : Value → World → Prop) (t0 t1 t2 t3 t4 : Value) (w : World) : Prop :=
  cl Try.prog 62 #[t0, t1, t2, t3, t4, (.int .i64 0)] (fun t19 w =>
  exq t19 0 (fun t20 w =>
  exq t19 1 (fun t21 w =>
  boI .eql t21 (.int .i64 0) (fun t23 w =>
  ifb t23
  (cl Try.prog 67 #[t20, t2, t3, t4] (fun t28 w =>
  s29_p2 K t1 t2 t3 t4 t20 t28 w) w)
  (s29_p2 K t1 t2 t3 t4 t20 t21 w)) w) w) w) w
def s29_p3_den (K : Value → World → Prop) : (Nat → Value) → World → Prop := denL Try.prog [(cd (Try.f29.body.getD .skip) [0]), (cd (Try.f29.body.getD .skip) [1, 0]), (cd (Try.f29.body.getD .skip) [1, 1, 0, 0]), (cd (Try.f29.body.getD .skip) [1, 1, 0, 1])] (s29_p2_den K) (fun i => (fun _ _ => False)) (s29_R K)
theorem s29_p3_ok (K : Value → World → Prop) (s : Nat → Value) (w : World) (h : s29_p3 K (s 0) (s 1) (s 2) (s 3) (s 4) w) : Tr (s29_p3_den K s w) :=
  tr_simple (P := Try.prog) (codes := [(cd (Try.f29.body.getD .skip) [0]), (cd (Try.f29.body.getD .skip) [1, 0]), (cd (Try.f29.body.getD .skip) [1, 1, 0, 0]), (cd (Try.f29.body.getD .skip) [1, 1, 0, 1])]) (N := (fun s w => s29_p2 K (s 1) (s 2) (s 3) (s 4) (s 11) (s 12) w)) (N' := (s29_p2_den K)) (X := (fun i => (fun _ _ => False))) (X' := (fun i => (fun _ _ => False))) (R := s29_R K) (s := s) (w := w) (p := s29_p3 K (s 0) (s 1) (s 2) (s 3) (s 4) w) (q := s29_p3_den K s w) (fun s w h => s29_p2_ok K s w @h) (fun i => tr_id) (by kernel_rfl) (by kernel_rfl) @h
/-- the call, from the text -/
theorem c29 (t0 t1 t2 t3 t4 : Value) {K : Value → World → Prop} {w : World} (h : s29_p3 K t0 t1 t2 t3 t4 w) : cl Try.prog 29 #[t0, t1, t2, t3, t4] K w :=
  calls_of_tr (c := (Try.f29.body.getD .skip)) (fn := Try.f29) (q := s29_p3_den K (st0 #[t0, t1, t2, t3, t4]) w) Try.func29 (by kernel_rfl) (by kernel_rfl) (Nat.le_of_ble_eq_true (by kernel_rfl)) (by kernel_rfl) (by kernel_rfl) (s29_p3_ok K (st0 #[t0, t1, t2, t3, t4]) w @h)

/-! ### function 30 : (*e2e.slots.Tables).CellOf -/
def s30_R (K : Value → World → Prop) (s : Nat → Value) (w : World) : Prop := retv Try.prog s Try.f30.results.toList (fun vs => K (pack vs) w) w
def s30_p1 (K : Value → World → Prop) (t6 t7 t8 : Value) (w : World) : Prop :=
  K (.tuple #[t6, t7, t8]) w
def s30_p1_den (K : Value → World → Prop) : (Nat → Value) → World → Prop := denL Try.prog [(cd (Try.f30.body.getD .skip) [1, 1, 1, 1])] (fun _ _ => False) (fun i => (fun _ _ => False)) (s30_R K)
theorem s30_p1_ok (K : Value → World → Prop) (s : Nat → Value) (w : World) (h : s30_p1 K (s 6) (s 7) (s 8) w) : Tr (s30_p1_den K s w) :=
  tr_simple (P := Try.prog) (codes := [(cd (Try.f30.body.getD .skip) [1, 1, 1, 1])]) (N := (fun _ _ => False)) (N' := (fun _ _ => False)) (X := (fun i => (fun _ _ => False))) (X' := (fun i => (fun _ _ => False))) (R := s30_R K) (s := s) (w := w) (p := s30_p1 K (s 6) (s 7) (s 8) w) (q := s30_p1_den K s w) tr_id (fun i => tr_id) (by kernel_rfl) (by kernel_rfl) @h
def s30_p2_d (K : Value → World → Prop) (t2 t9 : Value) (w0 w : World) : Prop :=
  nck t9 (fun t28 _ =>
  fd 6 t28 (fun t29 _ =>
  ld1 t29 (fun t30 _ =>
  cl Try.prog 64 #[t9, t2] (fun t26 w =>
  Below w0.heap.size w0 w ∧
  Below w0.heap.size w0 w ∧
  s30_p1 K t26 t30 .nilIface w) w) w0) w0) w0
def s30_p2 (K : Value → World → Prop) (t2 t9 : Value) (w : World) : Prop := s30_p2_d K t2 t9 (drw w) (drw w)
def s30_p2_den (K : Value → World → Prop) : (Nat → Value) → World → Prop := denL Try.prog [(cd (Try.f30.body.getD .skip) [1, 1, 1, 0])] (s30_p1_den K) (fun i => (fun _ _ => False)) (s30_R K)
theorem s30_p2_ok (K : Value → World → Prop) (s : Nat → Value) (w : World) (h : s30_p2 K (s 2) (s 9) w) : Tr (s30_p2_den K s w) :=
  tr_draw (P := Try.prog) (ops := (ro (cd (Try.f30.body.getD .skip) [1, 1, 1, 0]))) (ms := [0, 0, 3, 0, 8, 24, 56, 7, 255, 511]) (cs := [0, 1, 3, 4, 5, 6, 8, 9]) (N := (fun s w => s30_p1 K (s 6) (s 7) (s 8) w)) (N' := (s30_p1_den K)) (s := s) (w := w) (p := s30_p2 K (s 2) (s 9) w) (q := s30_p2_den K s w) (by kernel_rfl) (by kernel_rfl) (fun s w h => s30_p1_ok K s w @h) (by kernel_rfl) (by kernel_rfl) @h
def s30_p3 (K : Value → World → Prop) (t0 t1 t2 : Value) (w : World) : Prop :=
  cl Try.prog 62 #[t0, t1, t2, (.int .i64 0), (.int .i64 1), (.int .i64 2)] (fun t15 w =>
  exq t15 0 (fun t16 w =>
  exq t15 1 (fun t17 w =>
  boI .neq t17 (.int .i64 0) (fun t19 w =>
  ifb t19
  (cl Try.prog 63 #[t17, (.string ⟨#[67, 101, 108, 108, 79, 102]⟩), t1, t2, (.int .i64 0), (.int .i64 0)] (fun t23 w =>
  K (.tuple #[(.int .i64 0), (.int .i64 0), t23]) w) w)
  (s30_p2 K t2 t16 w)) w) w) w) w
def s30_p3_den (K : Value → World → Prop) : (Nat → Value) → World → Prop := denL Try.prog [(cd (Try.f30.body.getD .skip) [0]), (cd (Try.f30.body.getD .skip) [1, 0]), (cd (Try.f30.body.getD .skip) [1, 1, 0, 0]), (cd (Try.f30.body.getD .skip) [1, 1, 0, 1])] (s30_p2_den K) (fun i => (fun _ _ => False)) (s30_R K)
theorem s30_p3_ok (K : Value → World → Prop) (s : Nat → Value) (w : World) (h : s30_p3 K (s 0) (s 1) (s 2) w) : Tr (s30_p3_den K s w) :=
  tr_simple (P := Try.prog) (codes := [(cd (Try.f30.body.getD .skip) [0]), (cd (Try.f30.body.getD .skip) [1, 0]), (cd (Try.f30.body.getD .skip) [1, 1, 0, 0]), (cd (Try.f30.body.getD .skip) [1, 1, 0, 1])]) (N := (fun s w => s30_p2 K (s 2) (s 9) w)) (N' := (s30_p2_den K)) (X := (fun i => (fun _ _ => False))) (X' := (fun i => (fun _ _ => False))) (R := s30_R K) (s := s) (w := w) (p := s30_p3 K (s 0) (s 1) (s 2) w) (q := s30_p3_den K s w) (fun s w h => s30_p2_ok K s w @h) (fun i => tr_id) (by kernel_rfl) (by kernel_rfl) @h
/-- the call, from the text -/
theorem c30 (t0 t1 t2 : Value) {K : Value → World → Prop} {w : World} (h : s30_p3 K t0 t1 t2 w) : cl Try.prog 30 #[t0, t1, t2] K w :=
  calls_of_tr (c := (Try.f30.body.getD .skip)) (fn := Try.f30) (q := s30_p3_den K (st0 #[t0, t1, t2]) w) Try.func30 (by kernel_rfl) (by kernel_rfl) (Nat.le_of_ble_eq_true (by kernel_rfl)) (by kernel_rfl) (by kernel_rfl) (s30_p3_ok K (st0 #[t0, t1, t2]) w @h)

/-! ### function 31 : (*e2e.slots.Tables).Now -/
def s31_R (K : Value → World → Prop) (s : Nat → Value) (w : World) : Prop := retv Try.prog s Try.f31.results.toList (fun vs => K (pack vs) w) w
def s31_p1 (K : Value → World → Prop) (t0 : Value) (w : World) : Prop :=
  nck t0 (fun t4 w =>
  fd 2 t4 (fun t5 w =>
  ld1 t5 (fun t6 w =>
  K t6 w) w) w) w
def s31_p1_den (K : Value → World → Prop) : (Nat → Value) → World → Prop := denL Try.prog [(cd (Try.f31.body.getD .skip) [0]), (cd (Try.f31.body.getD .skip) [1, 0]), (cd (Try.f31.body.getD .skip) [1, 1])] (fun _ _ => False) (fun i => (fun _ _ => False)) (s31_R K)
theorem s31_p1_ok (K : Value → World → Prop) (s : Nat → Value) (w : World) (h : s31_p1 K (s 0) w) : Tr (s31_p1_den K s w) :=
  tr_simple (P := Try.prog) (codes := [(cd (Try.f31.body.getD .skip) [0]), (cd (Try.f31.body.getD .skip) [1, 0]), (cd (Try.f31.body.getD .skip) [1, 1])]) (N := (fun _ _ => False)) (N' := (fun _ _ => False)) (X := (fun i => (fun _ _ => False))) (X' := (fun i => (fun _ _ => False))) (R := s31_R K) (s := s) (w := w) (p := s31_p1 K (s 0) w) (q := s31_p1_den K s w) tr_id (fun i => tr_id) (by kernel_rfl) (by kernel_rfl) @h
/-- the call, from the text -/
theorem c31 (t0 : Value) {K : Value → World → Prop} {w : World} (h : s31_p1 K t0 w) : cl Try.prog 31 #[t0] K w :=
  calls_of_tr (c := (Try.f31.body.getD .skip)) (fn := Try.f31) (q := s31_p1_den K (st0 #[t0]) w) Try.func31 (by kernel_rfl) (by kernel_rfl) (Nat.le_of_ble_eq_true (by kernel_rfl)) (by kernel_rfl) (by kernel_rfl) (s31_p1_ok K (st0 #[t0]) w @h)

/-! ### function 32 : e2e.slots.CodeOf -/
def s32_R (K : Value → World → Prop) (s : Nat → Value) (w : World) : Prop := retv Try.prog s Try.f32.results.toList (fun vs => K (pack vs) w) w
def s32_p1 (K : Value → World → Prop) (t0 : Value) (w : World) : Prop :=
  boF true .eql t0 .nilIface (fun t6 w =>
  ifb t6
  (K (.int .i64 0) w)
  (taq 108 (.pointer none) true t0 (fun t9 w =>
  exq t9 0 (fun t10 w =>
  exq t9 1 (fun t11 w =>
  ifb t11
  (nck t10 (fun t14 w =>
  fd 0 t14 (fun t15 w =>
  ld1 t15 (fun t16 w =>
  K t16 w) w) w) w)
  (K (.int .i64 (-1)) w)) w) w) w)) w
def s32_p1_den (K : Value → World → Prop) : (Nat → Value) → World → Prop := denL Try.prog [(cd (Try.f32.body.getD .skip) [0]), (cd (Try.f32.body.getD .skip) [1, 0, 0]), (cd (Try.f32.body.getD .skip) [1, 0, 1]), (cd (Try.f32.body.getD .skip) [1, 1, 0, 0]), (cd (Try.f32.body.getD .skip) [1, 1, 0, 1, 0]), (cd (Try.f32.body.getD .skip) [1, 1, 0, 1, 1]), (cd (Try.f32.body.getD .skip) [1, 1, 1, 0]), (cd (Try.f32.body.getD .skip) [1, 1, 1, 1])] (fun _ _ => False) (fun i => (fun _ _ => False)) (s32_R K)
theorem s32_p1_ok (K : Value → World → Prop) (s : Nat → Value) (w : World) (h : s32_p1 K (s 0) w) : Tr (s32_p1_den K s w) :=
  tr_simple (P := Try.prog) (codes := [(cd (Try.f32.body.getD .skip) [0]), (cd (Try.f32.body.getD .skip) [1, 0, 0]), (cd (Try.f32.body.getD .skip) [1, 0, 1]), (cd (Try.f32.body.getD .skip) [1, 1, 0, 0]), (cd (Try.f32.body.getD .skip) [1, 1, 0, 1, 0]), (cd (Try.f32.body.getD .skip) [1, 1, 0, 1, 1]), (cd (Try.f32.body.getD .skip) [1, 1, 1, 0]), (cd (Try.f32.body.getD .skip) [1, 1, 1, 1])]) (N := (fun _ _ => False)) (N' := (fun _ _ => False)) (X := (fun i => (fun _ _ => False))) (X' := (fun i => (fun _ _ => False))) (R := s32_R K) (s := s) (w := w) (p := s32_p1 K (s 0) w) (q := s32_p1_den K s w) tr_id (fun i => tr_id) (by kernel_rfl) (by kernel_rfl) @h
/-- the call, from the text -/
theorem c32 (t0 : Value) {K : Value → World → Prop} {w : World} (h : s32_p1 K t0 w) : cl Try.prog 32 #[t0] K w :=
  calls_of_tr (c := (Try.f32.body.getD .skip)) (fn := Try.f32) (q := s32_p1_den K (st0 #[t0]) w) Try.func32 (by kernel_rfl) (by kernel_rfl) (Nat.le_of_ble_eq_true (by kernel_rfl)) (by kernel_rfl) (by kernel_rfl) (s32_p1_ok K (st0 #[t0]) w @h)

/-! ### function 33 : (*e2e.slots.Tables).Fits -/
def s33_R (K : Value → World → Prop) (s : Nat → Value) (w : World) : Prop := retv Try.prog s Try.f33.results.toList (fun vs => K (pack vs) w) w
def s33_p1 (K : Value → World → Prop) (t1 t2 t3 t4 t12 : Value) (w : World) : Prop :=
  cl Try.prog 63 #[t12, (.string ⟨#[70, 105, 116, 115]⟩), t1, t2, t3, t4] (fun t34 w =>
  K t34 w) w
def s33_p1_den (K : Value → World → Prop) : (Nat → Value) → World → Prop := denL Try.prog [(cd (Try.f33.body.getD .skip) [1, 1, 1, 0]), (cd (Try.f33.body.getD .skip) [1, 1, 1, 1])] (fun _ _ => False) (fun i => (fun _ _ => False)) (s33_R K)
theorem s33_p1_ok (K : Value → World → Prop) (s : Nat → Value) (w : World) (h : s33_p1 K (s 1) (s 2) (s 3) (s 4) (s 12) w) : Tr (s33_p1_den K s w) :=
  tr_simple (P := Try.prog) (codes := [(cd (Try.f33.body.getD .skip) [1, 1, 1, 0]), (cd (Try.f33.body.getD .skip) [1, 1, 1, 1])]) (N := (fun _ _ => False)) (N' := (fun _ _ => False)) (X := (fun i => (fun _ _ => False))) (X' := (fun i => (fun _ _ => False))) (R := s33_R K) (s := s) (w := w) (p := s33_p1 K (s 1) (s 2) (s 3) (s 4) (s 12) w) (q := s33_p1_den K s w) tr_id (fun i => tr_id) (by kernel_rfl) (by kernel_rfl) @h
def s33_p2 (K : Value → World → Prop) (t0 t1 t2 t3 t4 : Value) (w : World) : Prop :=
  cl Try.prog 62 #[t0, t1, t2, t3, t4, (.int .i64 0)] (fun t19 w =>
  exq t19 0 (fun t20 w =>
  exq t19 1 (fun t21 w =>
  boI .eql t21 (.int .i64 0) (fun t23 w =>
  ifb t23
  (cl Try.prog 67 #[t20, t2, t3, t4] (fun t28 w =>
  s33_p1 K t1 t2 t3 t4 t28 w) w)
  (s33_p1 K t1 t2 t3 t4 t21 w)) w) w) w) w
def s33_p2_den (K : Value → World → Prop) : (Nat → Value) → World → Prop := denL Try.prog [(cd (Try.f33.body.getD .skip) [0]), (cd (Try.f33.body.getD .skip) [1, 0]), (cd (Try.f33.body.getD .skip) [1, 1, 0, 0]), (cd (Try.f33.body.getD .skip) [1, 1, 0, 1])] (s33_p1_den K) (fun i => (fun _ _ => False)) (s33_R K)
theorem s33_p2_ok (K : Value → World → Prop) (s : Nat → Value) (w : World) (h : s33_p2 K (s 0) (s 1) (s 2) (s 3) (s 4) w) : Tr (s33_p2_den K s w) :=
  tr_simple (P := Try.prog) (codes := [(cd (Try.f33.body.getD .skip) [0]), (cd (Try.f33.body.getD .skip) [1, 0]), (cd (Try.f33.body.getD .skip) [1, 1, 0, 0]), (cd (Try.f33.body.getD .skip) [1, 1, 0, 1])]) (N := (fun s w => s33_p1 K (s 1) (s 2) (s 3) (s 4) (s 12) w)) (N' := (s33_p1_den K)) (X := (fun i => (fun _ _ => False))) (X' := (fun i => (fun _ _ => False))) (R := s33_R K) (s := s) (w := w) (p := s33_p2 K (s 0) (s 1) (s 2) (s 3) (s 4) w) (q := s33_p2_den K s w) (fun s w h => s33_p1_ok K s w @h) (fun i => tr_id) (by kernel_rfl) (by kernel_rfl) @h
/-- the call, from the text -/
theorem c33 (t0 t1 t2 t3 t4 : Value) {K : Value → World → Prop} {w : World} (h : s33_p2 K t0 t1 t2 t3 t4 w) : cl Try.prog 33 #[t0, t1, t2, t3, t4] K w :=
  calls_of_tr (c := (Try.f33.body.getD .skip)) (fn := Try.f33) (q := s33_p2_den K (st0 #[t0, t1, t2, t3, t4]) w) Try.func33 (by kernel_rfl) (by kernel_rfl) (Nat.le_of_ble_eq_true (by kernel_rfl)) (by kernel_rfl) (by kernel_rfl) (s33_p2_ok K (st0 #[t0, t1, t2, t3, t4]) w @h)

/-! ### function 34 : (*e2e.slots.Tables).Sound -/
def s34_R (K : Value → World → Prop) (s : Nat → Value) (w : World) : Prop := retv Try.prog s Try.f34.results.toList (fun vs => K (pack vs) w) w
def s34_p1 (K : Value → World → Prop) (w : World) : Prop :=
  K (.bool true) w
def s34_p1_den (K : Value → World → Prop) : (Nat → Value) → World → Prop := denL Try.prog [(cd (Try.f34.body.getD .skip) [1, 1, 0]), (cd (Try.f34.body.getD .skip) [1, 1, 1])] (fun _ _ => False) (fun i => (fun _ _ => False)) (s34_R K)
theorem s34_p1_ok (K : Value → World → Prop) (s : Nat → Value) (w : World) (h : s34_p1 K w) : Tr (s34_p1_den K s w) :=
  tr_simple (P := Try.prog) (codes := [(cd (Try.f34.body.getD .skip) [1, 1, 0]), (cd (Try.f34.body.getD .skip) [1, 1, 1])]) (N := (fun _ _ => False)) (N' := (fun _ _ => False)) (X := (fun i => (fun _ _ => False))) (X' := (fun i => (fun _ _ => False))) (R := s34_R K) (s := s) (w := w) (p := s34_p1 K w) (q := s34_p1_den K s w) tr_id (fun i => tr_id) (by kernel_rfl) (by kernel_rfl) @h
def s34_p2 (K : Value → World → Prop) (B1 : List Value → World → Prop) (t0 t8 t9 : Value) (w : World) : Prop :=
  boI .add t9 (.int .i64 1) (fun t24 w =>
  B1 [t0, t8, t24] w) w
def s34_p2_den (K : Value → World → Prop) (M1 : (Nat → Value) → World → Prop) : (Nat → Value) → World → Prop := denL Try.prog [(cd (Try.f34.body.getD .skip) [1, 0, 1, 0, 0, 1, 1, 1])] M1 (fun i => (bif Nat.beq i 0 then (s34_p1_den K) else (fun _ _ => False))) (s34_R K)
theorem s34_p2_ok (K : Value → World → Prop) (B1 : List Value → World → Prop) (s : Nat → Value) (w : World) (h : s34_p2 K B1 (s 0) (s 8) (s 9) w) : Tr (s34_p2_den K (fun s w => B1 [s 0, s 8, s 9] w) s w) :=
  tr_simple (P := Try.prog) (codes := [(cd (Try.f34.body.getD .skip) [1, 0, 1, 0, 0, 1, 1, 1])]) (N := (fun s w => B1 [s 0, s 8, s 9] w)) (N' := (fun s w => B1 [s 0, s 8, s 9] w)) (X := (fun i => (bif Nat.beq i 0 then (fun s w => s34_p1 K w) else (fun _ _ => False)))) (X' := (fun i => (bif Nat.beq i 0 then (s34_p1_den K) else (fun _ _ => False)))) (R := s34_R K) (s := s) (w := w) (p := s34_p2 K B1 (s 0) (s 8) (s 9) w) (q := s34_p2_den K (fun s w => B1 [s 0, s 8, s 9] w) s w) tr_id (fun i => (tr_bif (fun s w h => s34_p1_ok K s w @h) tr_id)) (by kernel_rfl) (by kernel_rfl) @h
def s34_p3 (K : Value → World → Prop) (B1 : List Value → World → Prop) (t0 t8 t9 t23 : Value) (w : World) : Prop :=
  ifb t23
  (K (.bool false) w)
  (s34_p2 K B1 t0 t8 t9 w)
def s34_p3_den (K : Value → World → Prop) (M1 : (Nat → Value) → World → Prop) : (Nat → Value) → World → Prop := denL Try.prog [(cd (Try.f34.body.getD .skip) [1, 0, 1, 0, 0, 1, 1, 0, 0, 1, 1])] (s34_p2_den K M1) (fun i => (bif Nat.beq i 1 then (s34_p2_den K M1) else (bif Nat.beq i 0 then (s34_p1_den K) else (fun _ _ => False)))) (s34_R K)
theorem s34_p3_ok (K : Value → World → Prop) (B1 : List Value → World → Prop) (s : Nat → Value) (w : World) (h : s34_p3 K B1 (s 0) (s 8) (s 9) (s 23) w) : Tr (s34_p3_den K (fun s w => B1 [s 0, s 8, s 9] w) s w) :=
  tr_simple (P := Try.prog) (codes := [(cd (Try.f34.body.getD .skip) [1, 0, 1, 0, 0, 1, 1, 0, 0, 1, 1])]) (N := (fun s w => s34_p2 K B1 (s 0) (s 8) (s 9) w)) (N' := (s34_p2_den K (fun s w => B1 [s 0, s 8, s 9] w))) (X := (fun i => (bif Nat.beq i 1 then (fun s w => s34_p2 K B1 (s 0) (s 8) (s 9) w) else (bif Nat.beq i 0 then (fun s w => s34_p1 K w) else (fun _ _ => False))))) (X' := (fun i => (bif Nat.beq i 1 then (s34_p2_den K (fun s w => B1 [s 0, s 8, s 9] w)) else (bif Nat.beq i 0 then (s34_p1_den K) else (fun _ _ => False))))) (R := s34_R K) (s := s) (w := w) (p := s34_p3 K B1 (s 0) (s 8) (s 9) (s 23) w) (q := s34_p3_den K (fun s w => B1 [s 0, s 8, s 9] w) s w) (fun s w h => s34_p2_ok K B1 s w @h) (fun i => (tr_bif (fun s w h => s34_p2_ok K B1 s w @h) (tr_bif (fun s w h => s34_p1_ok K s w @h) tr_id))) (by kernel_rfl) (by kernel_rfl) @h
def s34_p4_d (K : Value → World → Prop) (B1 : List Value → World → Prop) (t0 t3 t8 t9 : Value) (w0 w : World) : Prop :=
  nck t0 (fun t13 _ =>
  fd 3 t13 (fun t14 _ =>
  ld1 t14 (fun t15 _ =>
  ixs 9 t15 t3 (fun t17 _ =>
  nck t0 (fun t19 _ =>
  fd 2 t19 (fun t20 _ =>
  ld1 t20 (fun t21 _ =>
  cl Try.prog 68 #[t17, t21] (fun t22 w =>
  un .not t22 (fun t23 w =>
  s34_p3 K B1 t0 t8 t9 t23 w) w) w) w0) w0) w0) w0) w0) w0) w0
def s34_p4 (K : Value → World → Prop) (B1 : List Value → World → Prop) (t0 t3 t8 t9 : Value) (w : World) : Prop := s34_p4_d K B1 t0 t3 t8 t9 (drw w) (drw w)
def s34_p4_den (K : Value → World → Prop) (M1 : (Nat → Value) → World → Prop) : (Nat → Value) → World → Prop := denL Try.prog [(cd (Try.f34.body.getD .skip) [1, 0, 1, 0, 0, 1, 1, 0, 0, 1, 0])] (s34_p3_den K M1) (fun i => (bif Nat.beq i 1 then (s34_p2_den K M1) else (bif Nat.beq i 0 then (s34_p1_den K) else (fun _ _ => False)))) (s34_R K)
theorem s34_p4_ok (K : Value → World → Prop) (B1 : List Value → World → Prop) (s : Nat → Value) (w : World) (h : s34_p4 K B1 (s 0) (s 3) (s 8) (s 9) w) : Tr (s34_p4_den K (fun s w => B1 [s 0, s 8, s 9] w) s w) :=
  tr_draw (P := Try.prog) (ops := (ro (cd (Try.f34.body.getD .skip) [1, 0, 1, 0, 0, 1, 1, 0, 0, 1, 0]))) (ms := [0, 1, 3, 7, 0, 31, 0, 64, 192, 448, 1023, 2047]) (cs := [0, 1, 2, 3, 4, 5, 6, 7, 8, 9]) (N := (fun s w => s34_p3 K B1 (s 0) (s 8) (s 9) (s 23) w)) (N' := (s34_p3_den K (fun s w => B1 [s 0, s 8, s 9] w))) (s := s) (w := w) (p := s34_p4 K B1 (s 0) (s 3) (s 8) (s 9) w) (q := s34_p4_den K (fun s w => B1 [s 0, s 8, s 9] w) s w) (by kernel_rfl) (by kernel_rfl) (fun s w h => s34_p3_ok K B1 s w @h) (by kernel_rfl) (by kernel_rfl) @h
def s34_p5 (K : Value → World → Prop) (B1 : List Value → World → Prop) (t0 t8 t9 : Value) (w : World) : Prop :=
  s34_p4 K B1 t0 t9 t8 t9 w
def s34_p5_den (K : Value → World → Prop) (M1 : (Nat → Value) → World → Prop) : (Nat → Value) → World → Prop := denL Try.prog [(cd (Try.f34.body.getD .skip) [1, 0, 1, 0, 0, 1, 1, 0, 0, 0])] (s34_p4_den K M1) (fun i => (bif Nat.beq i 1 then (s34_p2_den K M1) else (bif Nat.beq i 0 then (s34_p1_den K) else (fun _ _ => False)))) (s34_R K)
theorem s34_p5_ok (K : Value → World → Prop) (B1 : List Value → World → Prop) (s : Nat → Value) (w : World) (h : s34_p5 K B1 (s 0) (s 8) (s 9) w) : Tr (s34_p5_den K (fun s w => B1 [s 0, s 8, s 9] w) s w) :=
  tr_simple (P := Try.prog) (codes := [(cd (Try.f34.body.getD .skip) [1, 0, 1, 0, 0, 1, 1, 0, 0, 0])]) (N := (fun s w => s34_p4 K B1 (s 0) (s 3) (s 8) (s 9) w)) (N' := (s34_p4_den K (fun s w => B1 [s 0, s 8, s 9] w))) (X := (fun i => (bif Nat.beq i 1 then (fun s w => s34_p2 K B1 (s 0) (s 8) (s 9) w) else (bif Nat.beq i 0 then (fun s w => s34_p1 K w) else (fun _ _ => False))))) (X' := (fun i => (bif Nat.beq i 1 then (s34_p2_den K (fun s w => B1 [s 0, s 8, s 9] w)) else (bif Nat.beq i 0 then (s34_p1_den K) else (fun _ _ => False))))) (R := s34_R K) (s := s) (w := w) (p := s34_p5 K B1 (s 0) (s 8) (s 9) w) (q := s34_p5_den K (fun s w => B1 [s 0, s 8, s 9] w) s w) (fun s w h => s34_p4_ok K B1 s w @h) (fun i => (tr_bif (fun s w h => s34_p2_ok K B1 s w @h) (tr_bif (fun s w h => s34_p1_ok K s w @h) tr_id))) (by kernel_rfl) (by kernel_rfl) @h
def s34_p6 (K : Value → World → Prop) (B1 : List Value → World → Prop) (t0 t8 t9 : Value) (w : World) : Prop :=
  boI .lss t9 t8 (fun t10 w =>
  ifb t10
  (s34_p5 K B1 t0 t8 t9 w)
  (s34_p1 K w)) w
def s34_p6_den (K : Value → World → Prop) (M1 : (Nat → Value) → World → Prop) : (Nat → Value) → World → Prop := denL Try.prog [(cd (Try.f34.body.getD .skip) [1, 0, 1, 0, 0, 0]), (cd (Try.f34.body.getD .skip) [1, 0, 1, 0, 0, 1, 0])] (s34_p5_den K M1) (fun i => (bif Nat.beq i 0 then (s34_p1_den K) else (fun _ _ => False))) (s34_R K)
theorem s34_p6_ok (K : Value → World → Prop) (B1 : List Value → World → Prop) (s : Nat → Value) (w : World) (h : s34_p6 K B1 (s 0) (s 8) (s 9) w) : Tr (s34_p6_den K (fun s w => B1 [s 0, s 8, s 9] w) s w) :=
  tr_simple (P := Try.prog) (codes := [(cd (Try.f34.body.getD .skip) [1, 0, 1, 0, 0, 0]), (cd (Try.f34.body.getD .skip) [1, 0, 1, 0, 0, 1, 0])]) (N := (fun s w => s34_p5 K B1 (s 0) (s 8) (s 9) w)) (N' := (s34_p5_den K (fun s w => B1 [s 0, s 8, s 9] w))) (X := (fun i => (bif Nat.beq i 0 then (fun s w => s34_p1 K w) else (fun _ _ => False)))) (X' := (fun i => (bif Nat.beq i 0 then (s34_p1_den K) else (fun _ _ => False)))) (R := s34_R K) (s := s) (w := w) (p := s34_p6 K B1 (s 0) (s 8) (s 9) w) (q := s34_p6_den K (fun s w => B1 [s 0, s 8, s 9] w) s w) (fun s w h => s34_p5_ok K B1 s w @h) (fun i => (tr_bif (fun s w h => s34_p1_ok K s w @h) tr_id)) (by kernel_rfl) (by kernel_rfl) @h
def s34_p7_F (K : Value → World → Prop) (B1 : List Value → World → Prop) (l : List Value) (w : World) : Prop :=
  match l with
  | [t0, t8, t9] => s34_p6 K B1 t0 t8 t9 w
  | _ => False
theorem s34_p7_Fe {K : Value → World → Prop} {B1 : List Value → World → Prop} {t0 t8 t9 : Value} {w : World} : s34_p7_F K B1 [t0, t8, t9] w = s34_p6 K B1 t0 t8 t9 w := by kernel_rfl
def s34_p7 (K : Value → World → Prop) (t0 t8 t9 : Value) (w : World) : Prop :=
  LoopL (s34_p7_F K) [t0, t8, t9] w
def s34_p7_den (K : Value → World → Prop) : (Nat → Value) → World → Prop := fun s w => LoopP (fun M1 s w => s34_p6_den K M1 s w) s w
theorem s34_p7_ok (K : Value → World → Prop) (s : Nat → Value) (w : World) (h : s34_p7 K (s 0) (s 8) (s 9) w) : Tr (s34_p7_den K s w) :=
  tr_loop (G := fun N' s w => s34_p6_den K N' s w) (F := s34_p7_F K) (sel := fun s => [s 0, s 8, s 9]) (s := s) (w := w) (p := s34_p7 K (s 0) (s 8) (s 9) w) (q := s34_p7_den K s w) (fun B s w h => s34_p6_ok K B s w @h) (by kernel_rfl) (by kernel_rfl) @h
def s34_p8 (K : Value → World → Prop) (t0 : Value) (w : World) : Prop :=
  nck t0 (fun t5 w =>
  fd 3 t5 (fun t6 w =>
  ld1 t6 (fun t7 w =>
  lnS t7 (fun t8 w =>
  s34_p7 K t0 t8 (.int .i64 0) w) w) w) w) w
def s34_p8_den (K : Value → World → Prop) : (Nat → Value) → World → Prop := denL Try.prog [(cd (Try.f34.body.getD .skip) [0]), (cd (Try.f34.body.getD .skip) [1, 0, 0])] (s34_p7_den K) (fun i => (fun _ _ => False)) (s34_R K)
theorem s34_p8_ok (K : Value → World → Prop) (s : Nat → Value) (w : World) (h : s34_p8 K (s 0) w) : Tr (s34_p8_den K s w) :=
  tr_simple (P := Try.prog) (codes := [(cd (Try.f34.body.getD .skip) [0]), (cd (Try.f34.body.getD .skip) [1, 0, 0])]) (N := (fun s w => s34_p7 K (s 0) (s 8) (s 9) w)) (N' := (s34_p7_den K)) (X := (fun i => (fun _ _ => False))) (X' := (fun i => (fun _ _ => False))) (R := s34_R K) (s := s) (w := w) (p := s34_p8 K (s 0) w) (q := s34_p8_den K s w) (fun s w h => s34_p7_ok K s w @h) (fun i => tr_id) (by kernel_rfl) (by kernel_rfl) @h
/-- the call, from the text -/
theorem c34 (t0 : Value) {K : Value → World → Prop} {w : World} (h : s34_p8 K t0 w) : cl Try.prog 34 #[t0] K w :=
  calls_of_tr (c := (Try.f34.body.getD .skip)) (fn := Try.f34) (q := s34_p8_den K (st0 #[t0]) w) Try.func34 (by kernel_rfl) (by kernel_rfl) (Nat.le_of_ble_eq_true (by kernel_rfl)) (by kernel_rfl) (by kernel_rfl) (s34_p8_ok K (st0 #[t0]) w @h)

/-! ### function 35 : (*e2e.slots.Tables).Horizon -/
def s35_R (K : Value → World → Prop) (s : Nat → Value) (w : World) : Prop := retv Try.prog s Try.f35.results.toList (fun vs => K (pack vs) w) w
def s35_p1 (K : Value → World → Prop) (t2 t3 : Value) (w : World) : Prop :=
  K (.tuple #[t2, t3]) w
def s35_p1_den (K : Value → World → Prop) : (Nat → Value) → World → Prop := denL Try.prog [(cd (Try.f35.body.getD .skip) [1, 1])] (fun _ _ => False) (fun i => (fun _ _ => False)) (s35_R K)
theorem s35_p1_ok (K : Value → World → Prop) (s : Nat → Value) (w : World) (h : s35_p1 K (s 2) (s 3) w) : Tr (s35_p1_den K s w) :=
  tr_simple (P := Try.prog) (codes := [(cd (Try.f35.body.getD .skip) [1, 1])]) (N := (fun _ _ => False)) (N' := (fun _ _ => False)) (X := (fun i => (fun _ _ => False))) (X' := (fun i => (fun _ _ => False))) (R := s35_R K) (s := s) (w := w) (p := s35_p1 K (s 2) (s 3) w) (q := s35_p1_den K s w) tr_id (fun i => tr_id) (by kernel_rfl) (by kernel_rfl) @h
def s35_p2_d (K : Value → World → Prop) (t0 : Value) (w0 w : World) : Prop :=
  nck t0 (fun t5 _ =>
  fd 2 t5 (fun t6 _ =>
  ld1 t6 (fun t7 _ =>
  nck t0 (fun t9 _ =>
  fd 2 t9 (fun t10 _ =>
  ld1 t10 (fun t11 _ =>
  nck t0 (fun t13 _ =>
  fd 0 t13 (fun t14 _ =>
  ld1 t14 (fun t15 _ =>
  boI .add t11 t15 (fun t16 _ =>
  boI .sub t16 (.int .i64 1) (fun t17 _ =>
  s35_p1 K t7 t17 w) w0) w0) w0) w0) w0) w0) w0) w0) w0) w0) w0
def s35_p2 (K : Value → World → Prop) (t0 : Value) (w : World) : Prop := s35_p2_d K t0 (drw w) (drw w)
def s35_p2_den (K : Value → World → Prop) : (Nat → Value) → World → Prop := denL Try.prog [(cd (Try.f35.body.getD .skip) [1, 0])] (s35_p1_den K) (fun i => (fun _ _ => False)) (s35_R K)
theorem s35_p2_ok (K : Value → World → Prop) (s : Nat → Value) (w : World) (h : s35_p2 K (s 0) w) : Tr (s35_p2_den K s w) :=
  tr_draw (P := Try.prog) (ops := (ro (cd (Try.f35.body.getD .skip) [1, 0]))) (ms := [0, 1, 3, 7, 0, 16, 48, 112, 0, 256, 768, 1792, 4080, 8176, 15, 32767]) (cs := [0, 1, 2, 3, 4, 5, 6, 7, 8, 9, 10, 11, 12, 13, 14, 15]) (N := (fun s w => s35_p1 K (s 2) (s 3) w)) (N' := (s35_p1_den K)) (s := s) (w := w) (p := s35_p2 K (s 0) w) (q := s35_p2_den K s w) (by kernel_rfl) (by kernel_rfl) (fun s w h => s35_p1_ok K s w @h) (by kernel_rfl) (by kernel_rfl) @h
def s35_p3 (K : Value → World → Prop) (t0 : Value) (w : World) : Prop :=
  s35_p2 K t0 w
def s35_p3_den (K : Value → World → Prop) : (Nat → Value) → World → Prop := denL Try.prog [(cd (Try.f35.body.getD .skip) [0])] (s35_p2_den K) (fun i => (fun _ _ => False)) (s35_R K)
theorem s35_p3_ok (K : Value → World → Prop) (s : Nat → Value) (w : World) (h : s35_p3 K (s 0) w) : Tr (s35_p3_den K s w) :=
  tr_simple (P := Try.prog) (codes := [(cd (Try.f35.body.getD .skip) [0])]) (N := (fun s w => s35_p2 K (s 0) w)) (N' := (s35_p2_den K)) (X := (fun i => (fun _ _ => False))) (X' := (fun i => (fun _ _ => False))) (R := s35_R K) (s := s) (w := w) (p := s35_p3 K (s 0) w) (q := s35_p3_den K s w) (fun s w h => s35_p2_ok K s w @h) (fun i => tr_id) (by kernel_rfl) (by kernel_rfl) @h
/-- the call, from the text -/
theorem c35 (t0 : Value) {K : Value → World → Prop} {w : World} (h : s35_p3 K t0 w) : cl Try.prog 35 #[t0] K w :=
  calls_of_tr (c := (Try.f35.body.getD .skip)) (fn := Try.f35) (q := s35_p3_den K (st0 #[t0]) w) Try.func35 (by kernel_rfl) (by kernel_rfl) (Nat.le_of_ble_eq_true (by kernel_rfl)) (by kernel_rfl) (by kernel_rfl) (s35_p3_ok K (st0 #[t0]) w @h)

/-! ### function 36 : e2e.slotslaw.ConfigIsChecked$1 -/
def s36_R (K : Value → World → Prop) (s : Nat → Value) (w : World) : Prop := retv Try.prog s Try.f36.results.toList (fun vs => K (pack vs) w) w
def s36_p1 (K : Value → World → Prop) (t0 : Value) (w : World) : Prop :=
  nck t0 (fun t3 w =>
  fd 0 t3 (fun t4 w =>
  st1 t4 (.int .i64 0) (fun w =>
  K (.tuple #[]) w) w) w) w
def s36_p1_den (K : Value → World → Prop) : (Nat → Value) → World → Prop := denL Try.prog [(cd (Try.f36.body.getD .skip) [])] (s36_R K) (fun i => (fun _ _ => False)) (s36_R K)
theorem s36_p1_ok (K : Value → World → Prop) (s : Nat → Value) (w : World) (h : s36_p1 K (s 0) w) : Tr (s36_p1_den K s w) :=
  tr_simple (P := Try.prog) (codes := [(cd (Try.f36.body.getD .skip) [])]) (N := (s36_R K)) (N' := (s36_R K)) (X := (fun i => (fun _ _ => False))) (X' := (fun i => (fun _ _ => False))) (R := s36_R K) (s := s) (w := w) (p := s36_p1 K (s 0) w) (q := s36_p1_den K s w) tr_id (fun i => tr_id) (by kernel_rfl) (by kernel_rfl) @h
/-- the call, from the text -/
theorem c36 (t0 : Value) {K : Value → World → Prop} {w : World} (h : s36_p1 K t0 w) : cl Try.prog 36 #[t0] K w :=
  calls_of_tr (c := (Try.f36.body.getD .skip)) (fn := Try.f36) (q := s36_p1_den K (st0 #[t0]) w) Try.func36 (by kernel_rfl) (by kernel_rfl) (Nat.le_of_ble_eq_true (by kernel_rfl)) (by kernel_rfl) (by kernel_rfl) (s36_p1_ok K (st0 #[t0]) w @h)

/-! ### function 37 : e2e.slotslaw.ConfigIsChecked$2 -/
def s37_R (K : Value → World → Prop) (s : Nat → Value) (w : World) : Prop := retv Try.prog s Try.f37.results.toList (fun vs => K (pack vs) w) w
def s37_p1 (K : Value → World → Prop) (t0 : Value) (w : World) : Prop :=
  nck t0 (fun t3 w =>
  fd 0 t3 (fun t4 w =>
  st1 t4 (.int .i64 1048577) (fun w =>
  K (.tuple #[]) w) w) w) w
def s37_p1_den (K : Value → World → Prop) : (Nat → Value) → World → Prop := denL Try.prog [(cd (Try.f37.body.getD .skip) [])] (s37_R K) (fun i => (fun _ _ => False)) (s37_R K)
theorem s37_p1_ok (K : Value → World → Prop) (s : Nat → Value) (w : World) (h : s37_p1 K (s 0) w) : Tr (s37_p1_den K s w) :=
  tr_simple (P := Try.prog) (codes := [(cd (Try.f37.body.getD .skip) [])]) (N := (s37_R K)) (N' := (s37_R K)) (X := (fun i => (fun _ _ => False))) (X' := (fun i => (fun _ _ => False))) (R := s37_R K) (s := s) (w := w) (p := s37_p1 K (s 0) w) (q := s37_p1_den K s w) tr_id (fun i => tr_id) (by kernel_rfl) (by kernel_rfl) @h
/-- the call, from the text -/
theorem c37 (t0 : Value) {K : Value → World → Prop} {w : World} (h : s37_p1 K t0 w) : cl Try.prog 37 #[t0] K w :=
  calls_of_tr (c := (Try.f37.body.getD .skip)) (fn := Try.f37) (q := s37_p1_den K (st0 #[t0]) w) Try.func37 (by kernel_rfl) (by kernel_rfl) (Nat.le_of_ble_eq_true (by kernel_rfl)) (by kernel_rfl) (by kernel_rfl) (s37_p1_ok K (st0 #[t0]) w @h)

/-! ### function 38 : e2e.slotslaw.ConfigIsChecked$3 -/
def s38_R (K : Value → World → Prop) (s : Nat → Value) (w : World) : Prop := retv Try.prog s Try.f38.results.toList (fun vs => K (pack vs) w) w
def s38_p1 (K : Value → World → Prop) (t0 : Value) (w : World) : Prop :=
  nck t0 (fun t3 w =>
  fd 1 t3 (fun t4 w =>
  st1 t4 (.int .i64 (-1)) (fun w =>
  K (.tuple #[]) w) w) w) w
def s38_p1_den (K : Value → World → Prop) : (Nat → Value) → World → Prop := denL Try.prog [(cd (Try.f38.body.getD .skip) [])] (s38_R K) (fun i => (fun _ _ => False)) (s38_R K)
theorem s38_p1_ok (K : Value → World → Prop) (s : Nat → Value) (w : World) (h : s38_p1 K (s 0) w) : Tr (s38_p1_den K s w) :=
  tr_simple (P := Try.prog) (codes := [(cd (Try.f38.body.getD .skip) [])]) (N := (s38_R K)) (N' := (s38_R K)) (X := (fun i => (fun _ _ => False))) (X' := (fun i => (fun _ _ => False))) (R := s38_R K) (s := s) (w := w) (p := s38_p1 K (s 0) w) (q := s38_p1_den K s w) tr_id (fun i => tr_id) (by kernel_rfl) (by kernel_rfl) @h
/-- the call, from the text -/
theorem c38 (t0 : Value) {K : Value → World → Prop} {w : World} (h : s38_p1 K t0 w) : cl Try.prog 38 #[t0] K w :=
  calls_of_tr (c := (Try.f38.body.getD .skip)) (fn := Try.f38) (q := s38_p1_den K (st0 #[t0]) w) Try.func38 (by kernel_rfl) (by kernel_rfl) (Nat.le_of_ble_eq_true (by kernel_rfl)) (by kernel_rfl) (by kernel_rfl) (s38_p1_ok K (st0 #[t0]) w @h)

/-! ### function 39 : e2e.slotslaw.ConfigIsChecked$4 -/
def s39_R (K : Value → World → Prop) (s : Nat → Value) (w : World) : Prop := retv Try.prog s Try.f39.results.toList (fun vs => K (pack vs) w) w
def s39_p1 (K : Value → World → Prop) (t0 : Value) (w : World) : Prop :=
  nck t0 (fun t3 w =>
  fd 1 t3 (fun t4 w =>
  st1 t4 (.int .i64 1099511627777) (fun w =>
  K (.tuple #[]) w) w) w) w
def s39_p1_den (K : Value → World → Prop) : (Nat → Value) → World → Prop := denL Try.prog [(cd (Try.f39.body.getD .skip) [])] (s39_R K) (fun i => (fun _ _ => False)) (s39_R K)
theorem s39_p1_ok (K : Value → World → Prop) (s : Nat → Value) (w : World) (h : s39_p1 K (s 0) w) : Tr (s39_p1_den K s w) :=
  tr_simple (P := Try.prog) (codes := [(cd (Try.f39.body.getD .skip) [])]) (N := (s39_R K)) (N' := (s39_R K)) (X := (fun i => (fun _ _ => False))) (X' := (fun i => (fun _ _ => False))) (R := s39_R K) (s := s) (w := w) (p := s39_p1 K (s 0) w) (q := s39_p1_den K s w) tr_id (fun i => tr_id) (by kernel_rfl) (by kernel_rfl) @h
/-- the call, from the text -/
theorem c39 (t0 : Value) {K : Value → World → Prop} {w : World} (h : s39_p1 K t0 w) : cl Try.prog 39 #[t0] K w :=
  calls_of_tr (c := (Try.f39.body.getD .skip)) (fn := Try.f39) (q := s39_p1_den K (st0 #[t0]) w) Try.func39 (by kernel_rfl) (by kernel_rfl) (Nat.le_of_ble_eq_true (by kernel_rfl)) (by kernel_rfl) (by kernel_rfl) (s39_p1_ok K (st0 #[t0]) w @h)

/-! ### function 40 : e2e.slotslaw.ConfigIsChecked$5 -/
def s40_R (K : Value → World → Prop) (s : Nat → Value) (w : World) : Prop := retv Try.prog s Try.f40.results.toList (fun vs => K (pack vs) w) w
def s40_p1 (K : Value → World → Prop) (t0 : Value) (w : World) : Prop :=
  nck t0 (fun t3 w =>
  fd 2 t3 (fun t4 w =>
  st1 t4 (.slice none 0 0) (fun w =>
  K (.tuple #[]) w) w) w) w
def s40_p1_den (K : Value → World → Prop) : (Nat → Value) → World → Prop := denL Try.prog [(cd (Try.f40.body.getD .skip) [])] (s40_R K) (fun i => (fun _ _ => False)) (s40_R K)
theorem s40_p1_ok (K : Value → World → Prop) (s : Nat → Value) (w : World) (h : s40_p1 K (s 0) w) : Tr (s40_p1_den K s w) :=
  tr_simple (P := Try.prog) (codes := [(cd (Try.f40.body.getD .skip) [])]) (N := (s40_R K)) (N' := (s40_R K)) (X := (fun i => (fun _ _ => False))) (X' := (fun i => (fun _ _ => False))) (R := s40_R K) (s := s) (w := w) (p := s40_p1 K (s 0) w) (q := s40_p1_den K s w) tr_id (fun i => tr_id) (by kernel_rfl) (by kernel_rfl) @h
/-- the call, from the text -/
theorem c40 (t0 : Value) {K : Value → World → Prop} {w : World} (h : s40_p1 K t0 w) : cl Try.prog 40 #[t0] K w :=
  calls_of_tr (c := (Try.f40.body.getD .skip)) (fn := Try.f40) (q := s40_p1_den K (st0 #[t0]) w) Try.func40 (by kernel_rfl) (by kernel_rfl) (Nat.le_of_ble_eq_true (by kernel_rfl)) (by kernel_rfl) (by kernel_rfl) (s40_p1_ok K (st0 #[t0]) w @h)

/-! ### function 41 : e2e.slotslaw.ConfigIsChecked$6 -/
def s41_R (K : Value → World → Prop) (s : Nat → Value) (w : World) : Prop := retv Try.prog s Try.f41.results.toList (fun vs => K (pack vs) w) w
def s41_p1 (K : Value → World → Prop) (t0 : Value) (w : World) : Prop :=
  nck t0 (fun t3 w =>
  fd 2 t3 (fun t4 w =>
  ld1 t4 (fun t5 w =>
  ixs 5 t5 (.int .i64 1) (fun t6 w =>
  fd 0 t6 (fun t7 w =>
  st1 t7 (.int .i64 0) (fun w =>
  K (.tuple #[]) w) w) w) w) w) w) w
def s41_p1_den (K : Value → World → Prop) : (Nat → Value) → World → Prop := denL Try.prog [(cd (Try.f41.body.getD .skip) [])] (s41_R K) (fun i => (fun _ _ => False)) (s41_R K)
theorem s41_p1_ok (K : Value → World → Prop) (s : Nat → Value) (w : World) (h : s41_p1 K (s 0) w) : Tr (s41_p1_den K s w) :=
  tr_simple (P := Try.prog) (codes := [(cd (Try.f41.body.getD .skip) [])]) (N := (s41_R K)) (N' := (s41_R K)) (X := (fun i => (fun _ _ => False))) (X' := (fun i => (fun _ _ => False))) (R := s41_R K) (s := s) (w := w) (p := s41_p1 K (s 0) w) (q := s41_p1_den K s w) tr_id (fun i => tr_id) (by kernel_rfl) (by kernel_rfl) @h
/-- the call, from the text -/
theorem c41 (t0 : Value) {K : Value → World → Prop} {w : World} (h : s41_p1 K t0 w) : cl Try.prog 41 #[t0] K w :=
  calls_of_tr (c := (Try.f41.body.getD .skip)) (fn := Try.f41) (q := s41_p1_den K (st0 #[t0]) w) Try.func41 (by kernel_rfl) (by kernel_rfl) (Nat.le_of_ble_eq_true (by kernel_rfl)) (by kernel_rfl) (by kernel_rfl) (s41_p1_ok K (st0 #[t0]) w @h)

/-! ### function 42 : e2e.slotslaw.ConfigIsChecked$7 -/
def s42_R (K : Value → World → Prop) (s : Nat → Value) (w : World) : Prop := retv Try.prog s Try.f42.results.toList (fun vs => K (pack vs) w) w
def s42_p1 (K : Value → World → Prop) (t0 : Value) (w : World) : Prop :=
  nck t0 (fun t3 w =>
  fd 2 t3 (fun t4 w =>
  ld1 t4 (fun t5 w =>
  ixs 5 t5 (.int .i64 1) (fun t6 w =>
  fd 0 t6 (fun t7 w =>
  st1 t7 (.int .i64 1073741825) (fun w =>
  K (.tuple #[]) w) w) w) w) w) w) w
def s42_p1_den (K : Value → World → Prop) : (Nat → Value) → World → Prop := denL Try.prog [(cd (Try.f42.body.getD .skip) [])] (s42_R K) (fun i => (fun _ _ => False)) (s42_R K)
theorem s42_p1_ok (K : Value → World → Prop) (s : Nat → Value) (w : World) (h : s42_p1 K (s 0) w) : Tr (s42_p1_den K s w) :=
  tr_simple (P := Try.prog) (codes := [(cd (Try.f42.body.getD .skip) [])]) (N := (s42_R K)) (N' := (s42_R K)) (X := (fun i => (fun _ _ => False))) (X' := (fun i => (fun _ _ => False))) (R := s42_R K) (s := s) (w := w) (p := s42_p1 K (s 0) w) (q := s42_p1_den K s w) tr_id (fun i => tr_id) (by kernel_rfl) (by kernel_rfl) @h
/-- the call, from the text -/
theorem c42 (t0 : Value) {K : Value → World → Prop} {w : World} (h : s42_p1 K t0 w) : cl Try.prog 42 #[t0] K w :=
  calls_of_tr (c := (Try.f42.body.getD .skip)) (fn := Try.f42) (q := s42_p1_den K (st0 #[t0]) w) Try.func42 (by kernel_rfl) (by kernel_rfl) (Nat.le_of_ble_eq_true (by kernel_rfl)) (by kernel_rfl) (by kernel_rfl) (s42_p1_ok K (st0 #[t0]) w @h)

/-! ### function 43 : e2e.slotslaw.ConfigIsChecked$8 -/
def s43_R (K : Value → World → Prop) (s : Nat → Value) (w : World) : Prop := retv Try.prog s Try.f43.results.toList (fun vs => K (pack vs) w) w
def s43_p1 (K : Value → World → Prop) (t0 : Value) (w : World) : Prop :=
  nck t0 (fun t3 w =>
  fd 2 t3 (fun t4 w =>
  ld1 t4 (fun t5 w =>
  ixs 5 t5 (.int .i64 2) (fun t6 w =>
  fd 1 t6 (fun t7 w =>
  st1 t7 (.int .i64 0) (fun w =>
  K (.tuple #[]) w) w) w) w) w) w) w
def s43_p1_den (K : Value → World → Prop) : (Nat → Value) → World → Prop := denL Try.prog [(cd (Try.f43.body.getD .skip) [])] (s43_R K) (fun i => (fun _ _ => False)) (s43_R K)
theorem s43_p1_ok (K : Value → World → Prop) (s : Nat → Value) (w : World) (h : s43_p1 K (s 0) w) : Tr (s43_p1_den K s w) :=
  tr_simple (P := Try.prog) (codes := [(cd (Try.f43.body.getD .skip) [])]) (N := (s43_R K)) (N' := (s43_R K)) (X := (fun i => (fun _ _ => False))) (X' := (fun i => (fun _ _ => False))) (R := s43_R K) (s := s) (w := w) (p := s43_p1 K (s 0) w) (q := s43_p1_den K s w) tr_id (fun i => tr_id) (by kernel_rfl) (by kernel_rfl) @h
/-- the call, from the text -/
theorem c43 (t0 : Value) {K : Value → World → Prop} {w : World} (h : s43_p1 K t0 w) : cl Try.prog 43 #[t0] K w :=
  calls_of_tr (c := (Try.f43.body.getD .skip)) (fn := Try.f43) (q := s43_p1_den K (st0 #[t0]) w) Try.func43 (by kernel_rfl) (by kernel_rfl) (Nat.le_of_ble_eq_true (by kernel_rfl)) (by kernel_rfl) (by kernel_rfl) (s43_p1_ok K (st0 #[t0]) w @h)

/-! ### function 44 : e2e.slotslaw.ConfigIsChecked$9 -/
def s44_R (K : Value → World → Prop) (s : Nat → Value) (w : World) : Prop := retv Try.prog s Try.f44.results.toList (fun vs => K (pack vs) w) w
def s44_p1 (K : Value → World → Prop) (t0 : Value) (w : World) : Prop :=
  nck t0 (fun t3 w =>
  fd 2 t3 (fun t4 w =>
  ld1 t4 (fun t5 w =>
  ixs 5 t5 (.int .i64 2) (fun t6 w =>
  fd 1 t6 (fun t7 w =>
  st1 t7 (.int .i64 65537) (fun w =>
  K (.tuple #[]) w) w) w) w) w) w) w
def s44_p1_den (K : Value → World → Prop) : (Nat → Value) → World → Prop := denL Try.prog [(cd (Try.f44.body.getD .skip) [])] (s44_R K) (fun i => (fun _ _ => False)) (s44_R K)
theorem s44_p1_ok (K : Value → World → Prop) (s : Nat → Value) (w : World) (h : s44_p1 K (s 0) w) : Tr (s44_p1_den K s w) :=
  tr_simple (P := Try.prog) (codes := [(cd (Try.f44.body.getD .skip) [])]) (N := (s44_R K)) (N' := (s44_R K)) (X := (fun i => (fun _ _ => False))) (X' := (fun i => (fun _ _ => False))) (R := s44_R K) (s := s) (w := w) (p := s44_p1 K (s 0) w) (q := s44_p1_den K s w) tr_id (fun i => tr_id) (by kernel_rfl) (by kernel_rfl) @h
/-- the call, from the text -/
theorem c44 (t0 : Value) {K : Value → World → Prop} {w : World} (h : s44_p1 K t0 w) : cl Try.prog 44 #[t0] K w :=
  calls_of_tr (c := (Try.f44.body.getD .skip)) (fn := Try.f44) (q := s44_p1_den K (st0 #[t0]) w) Try.func44 (by kernel_rfl) (by kernel_rfl) (Nat.le_of_ble_eq_true (by kernel_rfl)) (by kernel_rfl) (by kernel_rfl) (s44_p1_ok K (st0 #[t0]) w @h)

/-! ### function 45 : e2e.slotslaw.ConfigIsChecked$10 -/
def s45_R (K : Value → World → Prop) (s : Nat → Value) (w : World) : Prop := retv Try.prog s Try.f45.results.toList (fun vs => K (pack vs) w) w
def s45_p1 (K : Value → World → Prop) (t0 : Value) (w : World) : Prop :=
  nck t0 (fun t3 w =>
  fd 2 t3 (fun t4 w =>
  ld1 t4 (fun t5 w =>
  ixs 5 t5 (.int .i64 0) (fun t6 w =>
  fd 2 t6 (fun t7 w =>
  ixa 3 1 t7 (.int .i64 2) (fun t8 w =>
  st1 t8 (.int .i64 (-1)) (fun w =>
  K (.tuple #[]) w) w) w) w) w) w) w) w
def s45_p1_den (K : Value → World → Prop) : (Nat → Value) → World → Prop := denL Try.prog [(cd (Try.f45.body.getD .skip) [])] (s45_R K) (fun i => (fun _ _ => False)) (s45_R K)
theorem s45_p1_ok (K : Value → World → Prop) (s : Nat → Value) (w : World) (h : s45_p1 K (s 0) w) : Tr (s45_p1_den K s w) :=
  tr_simple (P := Try.prog) (codes := [(cd (Try.f45.body.getD .skip) [])]) (N := (s45_R K)) (N' := (s45_R K)) (X := (fun i => (fun _ _ => False))) (X' := (fun i => (fun _ _ => False))) (R := s45_R K) (s := s) (w := w) (p := s45_p1 K (s 0) w) (q := s45_p1_den K s w) tr_id (fun i => tr_id) (by kernel_rfl) (by kernel_rfl) @h
/-- the call, from the text -/
theorem c45 (t0 : Value) {K : Value → World → Prop} {w : World} (h : s45_p1 K t0 w) : cl Try.prog 45 #[t0] K w :=
  calls_of_tr (c := (Try.f45.body.getD .skip)) (fn := Try.f45) (q := s45_p1_den K (st0 #[t0]) w) Try.func45 (by kernel_rfl) (by kernel_rfl) (Nat.le_of_ble_eq_true (by kernel_rfl)) (by kernel_rfl) (by kernel_rfl) (s45_p1_ok K (st0 #[t0]) w @h)

/-! ### function 46 : e2e.slotslaw.ConfigIsChecked$11 -/
def s46_R (K : Value → World → Prop) (s : Nat → Value) (w : World) : Prop := retv Try.prog s Try.f46.results.toList (fun vs => K (pack vs) w) w
def s46_p1 (K : Value → World → Prop) (t0 : Value) (w : World) : Prop :=
  nck t0 (fun t3 w =>
  fd 2 t3 (fun t4 w =>
  ld1 t4 (fun t5 w =>
  ixs 5 t5 (.int .i64 0) (fun t6 w =>
  fd 2 t6 (fun t7 w =>
  ixa 3 1 t7 (.int .i64 1) (fun t8 w =>
  st1 t8 (.int .i64 1073741825) (fun w =>
  K (.tuple #[]) w) w) w) w) w) w) w) w
def s46_p1_den (K : Value → World → Prop) : (Nat → Value) → World → Prop := denL Try.prog [(cd (Try.f46.body.getD .skip) [])] (s46_R K) (fun i => (fun _ _ => False)) (s46_R K)
theorem s46_p1_ok (K : Value → World → Prop) (s : Nat → Value) (w : World) (h : s46_p1 K (s 0) w) : Tr (s46_p1_den K s w) :=
  tr_simple (P := Try.prog) (codes := [(cd (Try.f46.body.getD .skip) [])]) (N := (s46_R K)) (N' := (s46_R K)) (X := (fun i => (fun _ _ => False))) (X' := (fun i => (fun _ _ => False))) (R := s46_R K) (s := s) (w := w) (p := s46_p1 K (s 0) w) (q := s46_p1_den K s w) tr_id (fun i => tr_id) (by kernel_rfl) (by kernel_rfl) @h
/-- the call, from the text -/
theorem c46 (t0 : Value) {K : Value → World → Prop} {w : World} (h : s46_p1 K t0 w) : cl Try.prog 46 #[t0] K w :=
  calls_of_tr (c := (Try.f46.body.getD .skip)) (fn := Try.f46) (q := s46_p1_den K (st0 #[t0]) w) Try.func46 (by kernel_rfl) (by kernel_rfl) (Nat.le_of_ble_eq_true (by kernel_rfl)) (by kernel_rfl) (by kernel_rfl) (s46_p1_ok K (st0 #[t0]) w @h)

/-! ### function 47 : e2e.slots.New -/
def s47_R (K : Value → World → Prop) (s : Nat → Value) (w : World) : Prop := retv Try.prog s Try.f47.results.toList (fun vs => K (pack vs) w) w
def s47_p1 (K : Value → World → Prop) (t4 : Value) (w : World) : Prop :=
  K (.tuple #[t4, .nilIface]) w
def s47_p1_den (K : Value → World → Prop) : (Nat → Value) → World → Prop := denL Try.prog [(cd (Try.f47.body.getD .skip) [1, 1, 1, 1, 0]), (cd (Try.f47.body.getD .skip) [1, 1, 1, 1, 1])] (fun _ _ => False) (fun i => (fun _ _ => False)) (s47_R K)
theorem s47_p1_ok (K : Value → World → Prop) (s : Nat → Value) (w : World) (h : s47_p1 K (s 4) w) : Tr (s47_p1_den K s w) :=
  tr_simple (P := Try.prog) (codes := [(cd (Try.f47.body.getD .skip) [1, 1, 1, 1, 0]), (cd (Try.f47.body.getD .skip) [1, 1, 1, 1, 1])]) (N := (fun _ _ => False)) (N' := (fun _ _ => False)) (X := (fun i => (fun _ _ => False))) (X' := (fun i => (fun _ _ => False))) (R := s47_R K) (s := s) (w := w) (p := s47_p1 K (s 4) w) (q := s47_p1_den K s w) tr_id (fun i => tr_id) (by kernel_rfl) (by kernel_rfl) @h
def s47_p2 (K : Value → World → Prop) (B1 : List Value → World → Prop) (t1 t4 t24 t25 t26 : Value) (w : World) : Prop :=
  boI .add t26 (.int .i64 1) (fun t41 w =>
  B1 [t1, t4, t24, t25, t41] w) w
def s47_p2_den (K : Value → World → Prop) (M1 : (Nat → Value) → World → Prop) : (Nat → Value) → World → Prop := denL Try.prog [(cd (Try.f47.body.getD .skip) [1, 1, 1, 0, 1, 0, 0, 1, 1, 1])] M1 (fun i => (bif Nat.beq i 0 then (s47_p1_den K) else (fun _ _ => False))) (s47_R K)
theorem s47_p2_ok (K : Value → World → Prop) (B1 : List Value → World → Prop) (s : Nat → Value) (w : World) (h : s47_p2 K B1 (s 1) (s 4) (s 24) (s 25) (s 26) w) : Tr (s47_p2_den K (fun s w => B1 [s 1, s 4, s 24, s 25, s 26] w) s w) :=
  tr_simple (P := Try.prog) (codes := [(cd (Try.f47.body.getD .skip) [1, 1, 1, 0, 1, 0, 0, 1, 1, 1])]) (N := (fun s w => B1 [s 1, s 4, s 24, s 25, s 26] w)) (N' := (fun s w => B1 [s 1, s 4, s 24, s 25, s 26] w)) (X := (fun i => (bif Nat.beq i 0 then (fun s w => s47_p1 K (s 4) w) else (fun _ _ => False)))) (X' := (fun i => (bif Nat.beq i 0 then (s47_p1_den K) else (fun _ _ => False)))) (R := s47_R K) (s := s) (w := w) (p := s47_p2 K B1 (s 1) (s 4) (s 24) (s 25) (s 26) w) (q := s47_p2_den K (fun s w => B1 [s 1, s 4, s 24, s 25, s 26] w) s w) tr_id (fun i => (tr_bif (fun s w h => s47_p1_ok K s w @h) tr_id)) (by kernel_rfl) (by kernel_rfl) @h
def s47_p3_d (K : Value → World → Prop) (B1 : List Value → World → Prop) (t1 t4 t5 t6 t24 t25 t26 : Value) (w0 w : World) : Prop :=
  nck t4 (fun t32 _ =>
  fd 3 t32 (fun t33 _ =>
  ld1 t33 (fun t34 _ =>
  ldn 5 t6 (fun t36 _ =>
  fd 0 t1 (fun t37 _ =>
  ld1 t37 (fun t38 _ =>
  ixs 9 t34 t5 (fun t40 _ =>
  cl Try.prog 70 #[t36, t38] (fun t39 w =>
  Below w0.heap.size w0 w ∧
  stn 9 t40 t39 (fun w =>
  s47_p2 K B1 t1 t4 t24 t25 t26 w) w) w) w0) w0) w0) w0) w0) w0) w0
def s47_p3 (K : Value → World → Prop) (B1 : List Value → World → Prop) (t1 t4 t5 t6 t24 t25 t26 : Value) (w : World) : Prop := s47_p3_d K B1 t1 t4 t5 t6 t24 t25 t26 (drw w) (drw w)
def s47_p3_den (K : Value → World → Prop) (M1 : (Nat → Value) → World → Prop) : (Nat → Value) → World → Prop := denL Try.prog [(cd (Try.f47.body.getD .skip) [1, 1, 1, 0, 1, 0, 0, 1, 1, 0, 0, 1])] (s47_p2_den K M1) (fun i => (bif Nat.beq i 1 then (s47_p2_den K M1) else (bif Nat.beq i 0 then (s47_p1_den K) else (fun _ _ => False)))) (s47_R K)
theorem s47_p3_ok (K : Value → World → Prop) (B1 : List Value → World → Prop) (s : Nat → Value) (w : World) (h : s47_p3 K B1 (s 1) (s 4) (s 5) (s 6) (s 24) (s 25) (s 26) w) : Tr (s47_p3_den K (fun s w => B1 [s 1, s 4, s 24, s 25, s 26] w) s w) :=
  tr_draw (P := Try.prog) (ops := (ro (cd (Try.f47.body.getD .skip) [1, 1, 1, 0, 1, 0, 0, 1, 1, 0, 0, 1]))) (ms := [0, 1, 3, 7, 0, 0, 0, 64, 224, 511, 1023]) (cs := [0, 1, 2, 3, 4, 5, 6, 7, 9]) (N := (fun s w => s47_p2 K B1 (s 1) (s 4) (s 24) (s 25) (s 26) w)) (N' := (s47_p2_den K (fun s w => B1 [s 1, s 4, s 24, s 25, s 26] w))) (s := s) (w := w) (p := s47_p3 K B1 (s 1) (s 4) (s 5) (s 6) (s 24) (s 25) (s 26) w) (q := s47_p3_den K (fun s w => B1 [s 1, s 4, s 24, s 25, s 26] w) s w) (by kernel_rfl) (by kernel_rfl) (fun s w h => s47_p2_ok K B1 s w @h) (by kernel_rfl) (by kernel_rfl) @h
def s47_p4 (K : Value → World → Prop) (B1 : List Value → World → Prop) (t1 t4 t24 t25 t26 : Value) (w : World) : Prop :=
  ixs 5 t24 t26 (fun t29 w =>
  ldn 5 t29 (fun t30 w =>
  nw 59 #[(.int .i64 0), (.int .i64 0), (.int .i64 0), (.int .i64 0), (.int .i64 0)] (fun t6 w =>
  stn 5 t6 t30 (fun w =>
  s47_p3 K B1 t1 t4 t26 t6 t24 t25 t26 w) w) w) w) w
def s47_p4_den (K : Value → World → Prop) (M1 : (Nat → Value) → World → Prop) : (Nat → Value) → World → Prop := denL Try.prog [(cd (Try.f47.body.getD .skip) [1, 1, 1, 0, 1, 0, 0, 1, 1, 0, 0, 0])] (s47_p3_den K M1) (fun i => (bif Nat.beq i 1 then (s47_p2_den K M1) else (bif Nat.beq i 0 then (s47_p1_den K) else (fun _ _ => False)))) (s47_R K)
theorem s47_p4_ok (K : Value → World → Prop) (B1 : List Value → World → Prop) (s : Nat → Value) (w : World) (h : s47_p4 K B1 (s 1) (s 4) (s 24) (s 25) (s 26) w) : Tr (s47_p4_den K (fun s w => B1 [s 1, s 4, s 24, s 25, s 26] w) s w) :=
  tr_simple (P := Try.prog) (codes := [(cd (Try.f47.body.getD .skip) [1, 1, 1, 0, 1, 0, 0, 1, 1, 0, 0, 0])]) (N := (fun s w => s47_p3 K B1 (s 1) (s 4) (s 5) (s 6) (s 24) (s 25) (s 26) w)) (N' := (s47_p3_den K (fun s w => B1 [s 1, s 4, s 24, s 25, s 26] w))) (X := (fun i => (bif Nat.beq i 1 then (fun s w => s47_p2 K B1 (s 1) (s 4) (s 24) (s 25) (s 26) w) else (bif Nat.beq i 0 then (fun s w => s47_p1 K (s 4) w) else (fun _ _ => False))))) (X' := (fun i => (bif Nat.beq i 1 then (s47_p2_den K (fun s w => B1 [s 1, s 4, s 24, s 25, s 26] w)) else (bif Nat.beq i 0 then (s47_p1_den K) else (fun _ _ => False))))) (R := s47_R K) (s := s) (w := w) (p := s47_p4 K B1 (s 1) (s 4) (s 24) (s 25) (s 26) w) (q := s47_p4_den K (fun s w => B1 [s 1, s 4, s 24, s 25, s 26] w) s w) (fun s w h => s47_p3_ok K B1 s w @h) (fun i => (tr_bif (fun s w h => s47_p2_ok K B1 s w @h) (tr_bif (fun s w h => s47_p1_ok K s w @h) tr_id))) (by kernel_rfl) (by kernel_rfl) @h
def s47_p5 (K : Value → World → Prop) (B1 : List Value → World → Prop) (t1 t4 t24 t25 t26 : Value) (w : World) : Prop :=
  boI .lss t26 t25 (fun t27 w =>
  ifb t27
  (s47_p4 K B1 t1 t4 t24 t25 t26 w)
  (s47_p1 K t4 w)) w
def s47_p5_den (K : Value → World → Prop) (M1 : (Nat → Value) → World → Prop) : (Nat → Value) → World → Prop := denL Try.prog [(cd (Try.f47.body.getD .skip) [1, 1, 1, 0, 1, 0, 0, 0]), (cd (Try.f47.body.getD .skip) [1, 1, 1, 0, 1, 0, 0, 1, 0])] (s47_p4_den K M1) (fun i => (bif Nat.beq i 0 then (s47_p1_den K) else (fun _ _ => False))) (s47_R K)
theorem s47_p5_ok (K : Value → World → Prop) (B1 : List Value → World → Prop) (s : Nat → Value) (w : World) (h : s47_p5 K B1 (s 1) (s 4) (s 24) (s 25) (s 26) w) : Tr (s47_p5_den K (fun s w => B1 [s 1, s 4, s 24, s 25, s 26] w) s w) :=
  tr_simple (P := Try.prog) (codes := [(cd (Try.f47.body.getD .skip) [1, 1, 1, 0, 1, 0, 0, 0]), (cd (Try.f47.body.getD .skip) [1, 1, 1, 0, 1, 0, 0, 1, 0])]) (N := (fun s w => s47_p4 K B1 (s 1) (s 4) (s 24) (s 25) (s 26) w)) (N' := (s47_p4_den K (fun s w => B1 [s 1, s 4, s 24, s 25, s 26] w))) (X := (fun i => (bif Nat.beq i 0 then (fun s w => s47_p1 K (s 4) w) else (fun _ _ => False)))) (X' := (fun i => (bif Nat.beq i 0 then (s47_p1_den K) else (fun _ _ => False)))) (R := s47_R K) (s := s) (w := w) (p := s47_p5 K B1 (s 1) (s 4) (s 24) (s 25) (s 26) w) (q := s47_p5_den K (fun s w => B1 [s 1, s 4, s 24, s 25, s 26] w) s w) (fun s w h => s47_p4_ok K B1 s w @h) (fun i => (tr_bif (fun s w h => s47_p1_ok K s w @h) tr_id)) (by kernel_rfl) (by kernel_rfl) @h
def s47_p6_F (K : Value → World → Prop) (B1 : List Value → World → Prop) (l : List Value) (w : World) : Prop :=
  match l with
  | [t1, t4, t24, t25, t26] => s47_p5 K B1 t1 t4 t24 t25 t26 w
  | _ => False
theorem s47_p6_Fe {K : Value → World → Prop} {B1 : List Value → World → Prop} {t1 t4 t24 t25 t26 : Value} {w : World} : s47_p6_F K B1 [t1, t4, t24, t25, t26] w = s47_p5 K B1 t1 t4 t24 t25 t26 w := by kernel_rfl
def s47_p6 (K : Value → World → Prop) (t1 t4 t24 t25 t26 : Value) (w : World) : Prop :=
  LoopL (s47_p6_F K) [t1, t4, t24, t25, t26] w
def s47_p6_den (K : Value → World → Prop) : (Nat → Value) → World → Prop := fun s w => LoopP (fun M1 s w => s47_p5_den K M1 s w) s w
theorem s47_p6_ok (K : Value → World → Prop) (s : Nat → Value) (w : World) (h : s47_p6 K (s 1) (s 4) (s 24) (s 25) (s 26) w) : Tr (s47_p6_den K s w) :=
  tr_loop (G := fun N' s w => s47_p5_den K N' s w) (F := s47_p6_F K) (sel := fun s => [s 1, s 4, s 24, s 25, s 26]) (s := s) (w := w) (p := s47_p6 K (s 1) (s 4) (s 24) (s 25) (s 26) w) (q := s47_p6_den K s w) (fun B s w h => s47_p5_ok K B s w @h) (by kernel_rfl) (by kernel_rfl) @h
def s47_p7 (K : Value → World → Prop) (t1 t4 : Value) (w : World) : Prop :=
  fd 2 t1 (fun t23 w =>
  ld1 t23 (fun t24 w =>
  lnS t24 (fun t25 w =>
  s47_p6 K t1 t4 t24 t25 (.int .i64 0) w) w) w) w
def s47_p7_den (K : Value → World → Prop) : (Nat → Value) → World → Prop := denL Try.prog [(cd (Try.f47.body.getD .skip) [1, 1, 1, 0, 0])] (s47_p6_den K) (fun i => (fun _ _ => False)) (s47_R K)
theorem s47_p7_ok (K : Value → World → Prop) (s : Nat → Value) (w : World) (h : s47_p7 K (s 1) (s 4) w) : Tr (s47_p7_den K s w) :=
  tr_simple (P := Try.prog) (codes := [(cd (Try.f47.body.getD .skip) [1, 1, 1, 0, 0])]) (N := (fun s w => s47_p6 K (s 1) (s 4) (s 24) (s 25) (s 26) w)) (N' := (s47_p6_den K)) (X := (fun i => (fun _ _ => False))) (X' := (fun i => (fun _ _ => False))) (R := s47_R K) (s := s) (w := w) (p := s47_p7 K (s 1) (s 4) w) (q := s47_p7_den K s w) (fun s w h => s47_p6_ok K s w @h) (fun i => tr_id) (by kernel_rfl) (by kernel_rfl) @h
def s47_p8_d (K : Value → World → Prop) (t1 : Value) (w0 w : World) : Prop :=
  fd 0 t1 (fun t13 _ =>
  ld1 t13 (fun t14 _ =>
  fd 1 t1 (fun t15 _ =>
  ld1 t15 (fun t16 _ =>
  fd 2 t1 (fun t17 _ =>
  ld1 t17 (fun t18 _ =>
  lnS t18 (fun t19 _ =>
  mks 102 [(.int .i64 0), (.int .i64 0), (.int .i64 0), (.int .i64 0), (.int .i64 0), (.int .i64 0), (.int .i64 0), (.slice none 0 0), (.slice none 0 0)] 104 t19 t19 (fun t20 w =>
  Below w0.heap.size w0 w ∧
  bdq [(.int .i64 0), (.int .i64 0), (.int .i64 0), (.slice none 0 0)] [(some (0, 1), t14), (some (1, 1), t16), (some (3, 1), t20)] (fun t21 w =>
  nw 98 (t21).cells (fun t22 w =>
  s47_p7 K t1 t22 w) w) w) w) w0) w0) w0) w0) w0) w0) w0
def s47_p8 (K : Value → World → Prop) (t1 : Value) (w : World) : Prop := s47_p8_d K t1 (drw w) (drw w)
def s47_p8_den (K : Value → World → Prop) : (Nat → Value) → World → Prop := denL Try.prog [(cd (Try.f47.body.getD .skip) [1, 1, 0])] (s47_p7_den K) (fun i => (fun _ _ => False)) (s47_R K)
theorem s47_p8_ok (K : Value → World → Prop) (s : Nat → Value) (w : World) (h : s47_p8 K (s 1) w) : Tr (s47_p8_den K s w) :=
  tr_draw (P := Try.prog) (ops := (ro (cd (Try.f47.body.getD .skip) [1, 1, 0]))) (ms := [0, 1, 0, 4, 0, 16, 48, 112, 255, 511, 1023]) (cs := [0, 1, 2, 3, 4, 5, 6]) (N := (fun s w => s47_p7 K (s 1) (s 4) w)) (N' := (s47_p7_den K)) (s := s) (w := w) (p := s47_p8 K (s 1) w) (q := s47_p8_den K s w) (by kernel_rfl) (by kernel_rfl) (fun s w h => s47_p7_ok K s w @h) (by kernel_rfl) (by kernel_rfl) @h
def s47_p9 (K : Value → World → Prop) (t0 : Value) (w : World) : Prop :=
  nw 30 (t0).cells (fun t1 w =>
  ldn 3 t1 (fun t7 w =>
  cl Try.prog 69 #[t7] (fun t8 w =>
  un .not t8 (fun t9 w =>
  ifb t9
  (bdq [(.int .i64 0), (.string ⟨#[]⟩), (.int .i64 0), (.int .i64 0), (.int .i64 0), (.int .i64 0)] [(some (0, 1), (.int .i64 11)), (some (1, 1), (.string ⟨#[78, 101, 119]⟩))] (fun t10 w =>
  nw 111 (t10).cells (fun t11 w =>
  K (.tuple #[(.pointer none), (.iface 108 t11)]) w) w) w)
  (s47_p8 K t1 w)) w) w) w) w
def s47_p9_den (K : Value → World → Prop) : (Nat → Value) → World → Prop := denL Try.prog [(cd (Try.f47.body.getD .skip) [0]), (cd (Try.f47.body.getD .skip) [1, 0, 0]), (cd (Try.f47.body.getD .skip) [1, 0, 1])] (s47_p8_den K) (fun i => (fun _ _ => False)) (s47_R K)
theorem s47_p9_ok (K : Value → World → Prop) (s : Nat → Value) (w : World) (h : s47_p9 K (s 0) w) : Tr (s47_p9_den K s w) :=
  tr_simple (P := Try.prog) (codes := [(cd (Try.f47.body.getD .skip) [0]), (cd (Try.f47.body.getD .skip) [1, 0, 0]), (cd (Try.f47.body.getD .skip) [1, 0, 1])]) (N := (fun s w => s47_p8 K (s 1) w)) (N' := (s47_p8_den K)) (X := (fun i => (fun _ _ => False))) (X' := (fun i => (fun _ _ => False))) (R := s47_R K) (s := s) (w := w) (p := s47_p9 K (s 0) w) (q := s47_p9_den K s w) (fun s w h => s47_p8_ok K s w @h) (fun i => tr_id) (by kernel_rfl) (by kernel_rfl) @h
/-- the call, from the text -/
theorem c47 (t0 : Value) {K : Value → World → Prop} {w : World} (h : s47_p9 K t0 w) : cl Try.prog 47 #[t0] K w :=
  calls_of_tr (c := (Try.f47.body.getD .skip)) (fn := Try.f47) (q := s47_p9_den K (st0 #[t0]) w) Try.func47 (by kernel_rfl) (by kernel_rfl) (Nat.le_of_ble_eq_true (by kernel_rfl)) (by kernel_rfl) (by kernel_rfl) (s47_p9_ok K (st0 #[t0]) w @h)

/-! ### function 48 : (*e2e.slots.Tables).Advance -/
def s48_R (K : Value → World → Prop) (s : Nat → Value) (w : World) : Prop := retv Try.prog s Try.f48.results.toList (fun vs => K (pack vs) w) w
def s48_p1 (K : Value → World → Prop) (t0 t1 : Value) (w : World) : Prop :=
  nck t0 (fun t45 w =>
  fd 2 t45 (fun t46 w =>
  ld1 t46 (fun t47 w =>
  boI .add t47 t1 (fun t49 w =>
  nck t0 (fun t50 w =>
  fd 2 t50 (fun t51 w =>
  st1 t51 t49 (fun w =>
  K .nilIface w) w) w) w) w) w) w) w
def s48_p1_den (K : Value → World → Prop) : (Nat → Value) → World → Prop := denL Try.prog [(cd (Try.f48.body.getD .skip) [1, 1, 1, 1, 0]), (cd (Try.f48.body.getD .skip) [1, 1, 1, 1, 1, 0]), (cd (Try.f48.body.getD .skip) [1, 1, 1, 1, 1, 1])] (fun _ _ => False) (fun i => (fun _ _ => False)) (s48_R K)
theorem s48_p1_ok (K : Value → World → Prop) (s : Nat → Value) (w : World) (h : s48_p1 K (s 0) (s 1) w) : Tr (s48_p1_den K s w) :=
  tr_simple (P := Try.prog) (codes := [(cd (Try.f48.body.getD .skip) [1, 1, 1, 1, 0]), (cd (Try.f48.body.getD .skip) [1, 1, 1, 1, 1, 0]), (cd (Try.f48.body.getD .skip) [1, 1, 1, 1, 1, 1])]) (N := (fun _ _ => False)) (N' := (fun _ _ => False)) (X := (fun i => (fun _ _ => False))) (X' := (fun i => (fun _ _ => False))) (R := s48_R K) (s := s) (w := w) (p := s48_p1 K (s 0) (s 1) w) (q := s48_p1_den K s w) tr_id (fun i => tr_id) (by kernel_rfl) (by kernel_rfl) @h
def s48_p2 (K : Value → World → Prop) (B1 : List Value → World → Prop) (t0 t1 t27 t28 : Value) (w : World) : Prop :=
  boI .add t28 (.int .i64 1) (fun t43 w =>
  B1 [t0, t1, t27, t43] w) w
def s48_p2_den (K : Value → World → Prop) (M1 : (Nat → Value) → World → Prop) : (Nat → Value) → World → Prop := denL Try.prog [(cd (Try.f48.body.getD .skip) [1, 1, 1, 0, 1, 0, 0, 1, 1, 1])] M1 (fun i => (bif Nat.beq i 0 then (s48_p1_den K) else (fun _ _ => False))) (s48_R K)
theorem s48_p2_ok (K : Value → World → Prop) (B1 : List Value → World → Prop) (s : Nat → Value) (w : World) (h : s48_p2 K B1 (s 0) (s 1) (s 27) (s 28) w) : Tr (s48_p2_den K (fun s w => B1 [s 0, s 1, s 27, s 28] w) s w) :=
  tr_simple (P := Try.prog) (codes := [(cd (Try.f48.body.getD .skip) [1, 1, 1, 0, 1, 0, 0, 1, 1, 1])]) (N := (fun s w => B1 [s 0, s 1, s 27, s 28] w)) (N' := (fun s w => B1 [s 0, s 1, s 27, s 28] w)) (X := (fun i => (bif Nat.beq i 0 then (fun s w => s48_p1 K (s 0) (s 1) w) else (fun _ _ => False)))) (X' := (fun i => (bif Nat.beq i 0 then (s48_p1_den K) else (fun _ _ => False)))) (R := s48_R K) (s := s) (w := w) (p := s48_p2 K B1 (s 0) (s 1) (s 27) (s 28) w) (q := s48_p2_den K (fun s w => B1 [s 0, s 1, s 27, s 28] w) s w) tr_id (fun i => (tr_bif (fun s w h => s48_p1_ok K s w @h) tr_id)) (by kernel_rfl) (by kernel_rfl) @h
def s48_p3_d (K : Value → World → Prop) (B1 : List Value → World → Prop) (t0 t1 t5 t27 t28 : Value) (w0 w : World) : Prop :=
  nck t0 (fun t32 _ =>
  fd 3 t32 (fun t33 _ =>
  ld1 t33 (fun t34 _ =>
  ixs 9 t34 t5 (fun t36 _ =>
  nck t0 (fun t38 _ =>
  fd 2 t38 (fun t39 _ =>
  ld1 t39 (fun t40 _ =>
  cl Try.prog 71 #[t36, t40, t1] (fun t42 w =>
  s48_p2 K B1 t0 t1 t27 t28 w) w) w0) w0) w0) w0) w0) w0) w0
def s48_p3 (K : Value → World → Prop) (B1 : List Value → World → Prop) (t0 t1 t5 t27 t28 : Value) (w : World) : Prop := s48_p3_d K B1 t0 t1 t5 t27 t28 (drw w) (drw w)
def s48_p3_den (K : Value → World → Prop) (M1 : (Nat → Value) → World → Prop) : (Nat → Value) → World → Prop := denL Try.prog [(cd (Try.f48.body.getD .skip) [1, 1, 1, 0, 1, 0, 0, 1, 1, 0, 0, 1])] (s48_p2_den K M1) (fun i => (bif Nat.beq i 1 then (s48_p2_den K M1) else (bif Nat.beq i 0 then (s48_p1_den K) else (fun _ _ => False)))) (s48_R K)
theorem s48_p3_ok (K : Value → World → Prop) (B1 : List Value → World → Prop) (s : Nat → Value) (w : World) (h : s48_p3 K B1 (s 0) (s 1) (s 5) (s 27) (s 28) w) : Tr (s48_p3_den K (fun s w => B1 [s 0, s 1, s 27, s 28] w) s w) :=
  tr_draw (P := Try.prog) (ops := (ro (cd (Try.f48.body.getD .skip) [1, 1, 1, 0, 1, 0, 0, 1, 1, 0, 0, 1]))) (ms := [0, 1, 3, 7, 0, 31, 0, 64, 192, 448, 0, 2047]) (cs := [0, 1, 2, 3, 4, 5, 6, 7, 8, 9, 10]) (N := (fun s w => s48_p2 K B1 (s 0) (s 1) (s 27) (s 28) w)) (N' := (s48_p2_den K (fun s w => B1 [s 0, s 1, s 27, s 28] w))) (s := s) (w := w) (p := s48_p3 K B1 (s 0) (s 1) (s 5) (s 27) (s 28) w) (q := s48_p3_den K (fun s w => B1 [s 0, s 1, s 27, s 28] w) s w) (by kernel_rfl) (by kernel_rfl) (fun s w h => s48_p2_ok K B1 s w @h) (by kernel_rfl) (by kernel_rfl) @h
def s48_p4 (K : Value → World → Prop) (B1 : List Value → World → Prop) (t0 t1 t27 t28 : Value) (w : World) : Prop :=
  s48_p3 K B1 t0 t1 t28 t27 t28 w
def s48_p4_den (K : Value → World → Prop) (M1 : (Nat → Value) → World → Prop) : (Nat → Value) → World → Prop := denL Try.prog [(cd (Try.f48.body.getD .skip) [1, 1, 1, 0, 1, 0, 0, 1, 1, 0, 0, 0])] (s48_p3_den K M1) (fun i => (bif Nat.beq i 1 then (s48_p2_den K M1) else (bif Nat.beq i 0 then (s48_p1_den K) else (fun _ _ => False)))) (s48_R K)
theorem s48_p4_ok (K : Value → World → Prop) (B1 : List Value → World → Prop) (s : Nat → Value) (w : World) (h : s48_p4 K B1 (s 0) (s 1) (s 27) (s 28) w) : Tr (s48_p4_den K (fun s w => B1 [s 0, s 1, s 27, s 28] w) s w) :=
  tr_simple (P := Try.prog) (codes := [(cd (Try.f48.body.getD .skip) [1, 1, 1, 0, 1, 0, 0, 1, 1, 0, 0, 0])]) (N := (fun s w => s48_p3 K B1 (s 0) (s 1) (s 5) (s 27) (s 28) w)) (N' := (s48_p3_den K (fun s w => B1 [s 0, s 1, s 27, s 28] w))) (X := (fun i => (bif Nat.beq i 1 then (fun s w => s48_p2 K B1 (s 0) (s 1) (s 27) (s 28) w) else (bif Nat.beq i 0 then (fun s w => s48_p1 K (s 0) (s 1) w) else (fun _ _ => False))))) (X' := (fun i => (bif Nat.beq i 1 then (s48_p2_den K (fun s w => B1 [s 0, s 1, s 27, s 28] w)) else (bif Nat.beq i 0 then (s48_p1_den K) else (fun _ _ => False))))) (R := s48_R K) (s := s) (w := w) (p := s48_p4 K B1 (s 0) (s 1) (s 27) (s 28) w) (q := s48_p4_den K (fun s w => B1 [s 0, s 1, s 27, s 28] w) s w) (fun s w h => s48_p3_ok K B1 s w @h) (fun i => (tr_bif (fun s w h => s48_p2_ok K B1 s w @h) (tr_bif (fun s w h => s48_p1_ok K s w @h) tr_id))) (by kernel_rfl) (by kernel_rfl) @h
def s48_p5 (K : Value → World → Prop) (B1 : List Value → World → Prop) (t0 t1 t27 t28 : Value) (w : World) : Prop :=
  boI .lss t28 t27 (fun t29 w =>
  ifb t29
  (s48_p4 K B1 t0 t1 t27 t28 w)
  (s48_p1 K t0 t1 w)) w
def s48_p5_den (K : Value → World → Prop) (M1 : (Nat → Value) → World → Prop) : (Nat → Value) → World → Prop := denL Try.prog [(cd (Try.f48.body.getD .skip) [1, 1, 1, 0, 1, 0, 0, 0]), (cd (Try.f48.body.getD .skip) [1, 1, 1, 0, 1, 0, 0, 1, 0])] (s48_p4_den K M1) (fun i => (bif Nat.beq i 0 then (s48_p1_den K) else (fun _ _ => False))) (s48_R K)
theorem s48_p5_ok (K : Value → World → Prop) (B1 : List Value → World → Prop) (s : Nat → Value) (w : World) (h : s48_p5 K B1 (s 0) (s 1) (s 27) (s 28) w) : Tr (s48_p5_den K (fun s w => B1 [s 0, s 1, s 27, s 28] w) s w) :=
  tr_simple (P := Try.prog) (codes := [(cd (Try.f48.body.getD .skip) [1, 1, 1, 0, 1, 0, 0, 0]), (cd (Try.f48.body.getD .skip) [1, 1, 1, 0, 1, 0, 0, 1, 0])]) (N := (fun s w => s48_p4 K B1 (s 0) (s 1) (s 27) (s 28) w)) (N' := (s48_p4_den K (fun s w => B1 [s 0, s 1, s 27, s 28] w))) (X := (fun i => (bif Nat.beq i 0 then (fun s w => s48_p1 K (s 0) (s 1) w) else (fun _ _ => False)))) (X' := (fun i => (bif Nat.beq i 0 then (s48_p1_den K) else (fun _ _ => False)))) (R := s48_R K) (s := s) (w := w) (p := s48_p5 K B1 (s 0) (s 1) (s 27) (s 28) w) (q := s48_p5_den K (fun s w => B1 [s 0, s 1, s 27, s 28] w) s w) (fun s w h => s48_p4_ok K B1 s w @h) (fun i => (tr_bif (fun s w h => s48_p1_ok K s w @h) tr_id)) (by kernel_rfl) (by kernel_rfl) @h
def s48_p6_F (K : Value → World → Prop) (B1 : List Value → World → Prop) (l : List Value) (w : World) : Prop :=
  match l with
  | [t0, t1, t27, t28] => s48_p5 K B1 t0 t1 t27 t28 w
  | _ => False
theorem s48_p6_Fe {K : Value → World → Prop} {B1 : List Value → World → Prop} {t0 t1 t27 t28 : Value} {w : World} : s48_p6_F K B1 [t0, t1, t27, t28] w = s48_p5 K B1 t0 t1 t27 t28 w := by kernel_rfl
def s48_p6 (K : Value → World → Prop) (t0 t1 t27 t28 : Value) (w : World) : Prop :=
  LoopL (s48_p6_F K) [t0, t1, t27, t28] w
def s48_p6_den (K : Value → World → Prop) : (Nat → Value) → World → Prop := fun s w => LoopP (fun M1 s w => s48_p5_den K M1 s w) s w
theorem s48_p6_ok (K : Value → World → Prop) (s : Nat → Value) (w : World) (h : s48_p6 K (s 0) (s 1) (s 27) (s 28) w) : Tr (s48_p6_den K s w) :=
  tr_loop (G := fun N' s w => s48_p5_den K N' s w) (F := s48_p6_F K) (sel := fun s => [s 0, s 1, s 27, s 28]) (s := s) (w := w) (p := s48_p6 K (s 0) (s 1) (s 27) (s 28) w) (q := s48_p6_den K s w) (fun B s w h => s48_p5_ok K B s w @h) (by kernel_rfl) (by kernel_rfl) @h
def s48_p7 (K : Value → World → Prop) (t0 t1 t20 : Value) (w : World) : Prop :=
  ifb t20
  (cl Try.prog 63 #[(.int .i64 9), (.string ⟨#[65, 100, 118, 97, 110, 99, 101]⟩), (.int .i64 0), (.int .i64 0), (.int .i64 0), t1] (fun t22 w =>
  K t22 w) w)
  (nck t0 (fun t24 w =>
  fd 3 t24 (fun t25 w =>
  ld1 t25 (fun t26 w =>
  lnS t26 (fun t27 w =>
  s48_p6 K t0 t1 t27 (.int .i64 0) w) w) w) w) w)
def s48_p7_den (K : Value → World → Prop) : (Nat → Value) → World → Prop := denL Try.prog [(cd (Try.f48.body.getD .skip) [1, 1, 0, 1]), (cd (Try.f48.body.getD .skip) [1, 1, 1, 0, 0])] (s48_p6_den K) (fun i => (fun _ _ => False)) (s48_R K)
theorem s48_p7_ok (K : Value → World → Prop) (s : Nat → Value) (w : World) (h : s48_p7 K (s 0) (s 1) (s 20) w) : Tr (s48_p7_den K s w) :=
  tr_simple (P := Try.prog) (codes := [(cd (Try.f48.body.getD .skip) [1, 1, 0, 1]), (cd (Try.f48.body.getD .skip) [1, 1, 1, 0, 0])]) (N := (fun s w => s48_p6 K (s 0) (s 1) (s 27) (s 28) w)) (N' := (s48_p6_den K)) (X := (fun i => (fun _ _ => False))) (X' := (fun i => (fun _ _ => False))) (R := s48_R K) (s := s) (w := w) (p := s48_p7 K (s 0) (s 1) (s 20) w) (q := s48_p7_den K s w) (fun s w h => s48_p6_ok K s w @h) (fun i => tr_id) (by kernel_rfl) (by kernel_rfl) @h
def s48_p8_d (K : Value → World → Prop) (t0 t1 : Value) (w0 w : World) : Prop :=
  nck t0 (fun t12 _ =>
  fd 1 t12 (fun t13 _ =>
  ld1 t13 (fun t14 _ =>
  nck t0 (fun t16 _ =>
  fd 2 t16 (fun t17 _ =>
  ld1 t17 (fun t18 _ =>
  boI .sub t14 t18 (fun t19 _ =>
  boI .gtr t1 t19 (fun t20 _ =>
  s48_p7 K t0 t1 t20 w) w0) w0) w0) w0) w0) w0) w0) w0
def s48_p8 (K : Value → World → Prop) (t0 t1 : Value) (w : World) : Prop := s48_p8_d K t0 t1 (drw w) (drw w)
def s48_p8_den (K : Value → World → Prop) : (Nat → Value) → World → Prop := denL Try.prog [(cd (Try.f48.body.getD .skip) [1, 1, 0, 0])] (s48_p7_den K) (fun i => (fun _ _ => False)) (s48_R K)
theorem s48_p8_ok (K : Value → World → Prop) (s : Nat → Value) (w : World) (h : s48_p8 K (s 0) (s 1) w) : Tr (s48_p8_den K s w) :=
  tr_draw (P := Try.prog) (ops := (ro (cd (Try.f48.body.getD .skip) [1, 1, 0, 0]))) (ms := [0, 0, 2, 6, 14, 0, 32, 96, 224, 510, 1023]) (cs := [0, 1, 2, 3, 4, 5, 6, 7, 8, 9, 10]) (N := (fun s w => s48_p7 K (s 0) (s 1) (s 20) w)) (N' := (s48_p7_den K)) (s := s) (w := w) (p := s48_p8 K (s 0) (s 1) w) (q := s48_p8_den K s w) (by kernel_rfl) (by kernel_rfl) (fun s w h => s48_p7_ok K s w @h) (by kernel_rfl) (by kernel_rfl) @h
def s48_p9 (K : Value → World → Prop) (t0 t1 : Value) (w : World) : Prop :=
  boI .lss t1 (.int .i64 0) (fun t7 w =>
  ifb t7
  (cl Try.prog 63 #[(.int .i64 8), (.string ⟨#[65, 100, 118, 97, 110, 99, 101]⟩), (.int .i64 0), (.int .i64 0), (.int .i64 0), t1] (fun t9 w =>
  K t9 w) w)
  (s48_p8 K t0 t1 w)) w
def s48_p9_den (K : Value → World → Prop) : (Nat → Value) → World → Prop := denL Try.prog [(cd (Try.f48.body.getD .skip) [0]), (cd (Try.f48.body.getD .skip) [1, 0, 0]), (cd (Try.f48.body.getD .skip) [1, 0, 1])] (s48_p8_den K) (fun i => (fun _ _ => False)) (s48_R K)
theorem s48_p9_ok (K : Value → World → Prop) (s : Nat → Value) (w : World) (h : s48_p9 K (s 0) (s 1) w) : Tr (s48_p9_den K s w) :=
  tr_simple (P := Try.prog) (codes := [(cd (Try.f48.body.getD .skip) [0]), (cd (Try.f48.body.getD .skip) [1, 0, 0]), (cd (Try.f48.body.getD .skip) [1, 0, 1])]) (N := (fun s w => s48_p8 K (s 0) (s 1) w)) (N' := (s48_p8_den K)) (X := (fun i => (fun _ _ => False))) (X' := (fun i => (fun _ _ => False))) (R := s48_R K) (s := s) (w := w) (p := s48_p9 K (s 0) (s 1) w) (q := s48_p9_den K s w) (fun s w h => s48_p8_ok K s w @h) (fun i => tr_id) (by kernel_rfl) (by kernel_rfl) @h
/-- the call, from the text -/
theorem c48 (t0 t1 : Value) {K : Value → World → Prop} {w : World} (h : s48_p9 K t0 t1 w) : cl Try.prog 48 #[t0, t1] K w :=
  calls_of_tr (c := (Try.f48.body.getD .skip)) (fn := Try.f48) (q := s48_p9_den K (st0 #[t0, t1]) w) Try.func48 (by kernel_rfl) (by kernel_rfl) (Nat.le_of_ble_eq_true (by kernel_rfl)) (by kernel_rfl) (by kernel_rfl) (s48_p9_ok K (st0 #[t0, t1]) w @h)

/-! ### function 49 : (*e2e.slots.Tables).Room -/
def s49_R (K : Value → World → Prop) (s : Nat → Value) (w : World) : Prop := retv Try.prog s Try.f49.results.toList (fun vs => K (pack vs) w) w
def s49_p1 (K : Value → World → Prop) (t12 : Value) (w : World) : Prop :=
  K (.tuple #[t12, .nilIface]) w
def s49_p1_den (K : Value → World → Prop) : (Nat → Value) → World → Prop := denL Try.prog [(cd (Try.f49.body.getD .skip) [1, 1, 1, 1, 1, 0]), (cd (Try.f49.body.getD .skip) [1, 1, 1, 1, 1, 1])] (fun _ _ => False) (fun i => (fun _ _ => False)) (s49_R K)
theorem s49_p1_ok (K : Value → World → Prop) (s : Nat → Value) (w : World) (h : s49_p1 K (s 12) w) : Tr (s49_p1_den K s w) :=
  tr_simple (P := Try.prog) (codes := [(cd (Try.f49.body.getD .skip) [1, 1, 1, 1, 1, 0]), (cd (Try.f49.body.getD .skip) [1, 1, 1, 1, 1, 1])]) (N := (fun _ _ => False)) (N' := (fun _ _ => False)) (X := (fun i => (fun _ _ => False))) (X' := (fun i => (fun _ _ => False))) (R := s49_R K) (s := s) (w := w) (p := s49_p1 K (s 12) w) (q := s49_p1_den K s w) tr_id (fun i => tr_id) (by kernel_rfl) (by kernel_rfl) @h
def s49_p2 (K : Value → World → Prop) (t12 t13 : Value) (w : World) : Prop :=
  boI .lss t13 t12 (fun t52 w =>
  ifb t52
  (s49_p1 K t13 w)
  (s49_p1 K t12 w)) w
def s49_p2_den (K : Value → World → Prop) : (Nat → Value) → World → Prop := denL Try.prog [(cd (Try.f49.body.getD .skip) [1, 1, 1, 1, 0, 1, 0]), (cd (Try.f49.body.getD .skip) [1, 1, 1, 1, 0, 1, 1])] (s49_p1_den K) (fun i => (fun _ _ => False)) (s49_R K)
theorem s49_p2_ok (K : Value → World → Prop) (s : Nat → Value) (w : World) (h : s49_p2 K (s 12) (s 13) w) : Tr (s49_p2_den K s w) :=
  tr_simple (P := Try.prog) (codes := [(cd (Try.f49.body.getD .skip) [1, 1, 1, 1, 0, 1, 0]), (cd (Try.f49.body.getD .skip) [1, 1, 1, 1, 0, 1, 1])]) (N := (fun s w => s49_p1 K (s 12) w)) (N' := (s49_p1_den K)) (X := (fun i => (fun _ _ => False))) (X' := (fun i => (fun _ _ => False))) (R := s49_R K) (s := s) (w := w) (p := s49_p2 K (s 12) (s 13) w) (q := s49_p2_den K s w) (fun s w h => s49_p1_ok K s w @h) (fun i => tr_id) (by kernel_rfl) (by kernel_rfl) @h
def s49_p3_d (K : Value → World → Prop) (t2 t3 t10 t12 : Value) (w0 w : World) : Prop :=
  nck t10 (fun t40 _ =>
  fd 0 t40 (fun t41 _ =>
  fd 2 t41 (fun t42 _ =>
  ixa 3 1 t42 t3 (fun t43 _ =>
  ld1 t43 (fun t44 _ =>
  cl Try.prog 65 #[t10, t2, t3] (fun t48 w =>
  Below w0.heap.size w0 w ∧
  boI .sub t44 t48 (fun t49 w =>
  s49_p2 K t12 t49 w) w) w) w0) w0) w0) w0) w0
def s49_p3 (K : Value → World → Prop) (t2 t3 t10 t12 : Value) (w : World) : Prop := s49_p3_d K t2 t3 t10 t12 (drw w) (drw w)
def s49_p3_den (K : Value → World → Prop) : (Nat → Value) → World → Prop := denL Try.prog [(cd (Try.f49.body.getD .skip) [1, 1, 1, 1, 0, 0])] (s49_p2_den K) (fun i => (fun _ _ => False)) (s49_R K)
theorem s49_p3_ok (K : Value → World → Prop) (s : Nat → Value) (w : World) (h : s49_p3 K (s 2) (s 3) (s 10) (s 12) w) : Tr (s49_p3_den K s w) :=
  tr_draw (P := Try.prog) (ops := (ro (cd (Try.f49.body.getD .skip) [1, 1, 1, 1, 0, 0]))) (ms := [0, 0, 1, 5, 13, 31, 63, 0, 0, 0, 896, 2047, 4095]) (cs := [0, 1, 2, 3, 4, 5, 6, 7, 8, 9]) (N := (fun s w => s49_p2 K (s 12) (s 13) w)) (N' := (s49_p2_den K)) (s := s) (w := w) (p := s49_p3 K (s 2) (s 3) (s 10) (s 12) w) (q := s49_p3_den K s w) (by kernel_rfl) (by kernel_rfl) (fun s w h => s49_p2_ok K s w @h) (by kernel_rfl) (by kernel_rfl) @h
def s49_p4_d (K : Value → World → Prop) (t2 t3 t10 : Value) (w0 w : World) : Prop :=
  nck t10 (fun t30 _ =>
  fd 0 t30 (fun t31 _ =>
  fd 0 t31 (fun t32 _ =>
  ld1 t32 (fun t33 _ =>
  cl Try.prog 72 #[t10, t2] (fun t36 w =>
  Below w0.heap.size w0 w ∧
  boI .sub t33 t36 (fun t37 w =>
  s49_p3 K t2 t3 t10 t37 w) w) w) w0) w0) w0) w0
def s49_p4 (K : Value → World → Prop) (t2 t3 t10 : Value) (w : World) : Prop := s49_p4_d K t2 t3 t10 (drw w) (drw w)
def s49_p4_den (K : Value → World → Prop) : (Nat → Value) → World → Prop := denL Try.prog [(cd (Try.f49.body.getD .skip) [1, 1, 1, 0])] (s49_p3_den K) (fun i => (fun _ _ => False)) (s49_R K)
theorem s49_p4_ok (K : Value → World → Prop) (s : Nat → Value) (w : World) (h : s49_p4 K (s 2) (s 3) (s 10) w) : Tr (s49_p4_den K s w) :=
  tr_draw (P := Try.prog) (ops := (ro (cd (Try.f49.body.getD .skip) [1, 1, 1, 0]))) (ms := [0, 1, 3, 7, 15, 0, 0, 96, 255, 511]) (cs := [0, 1, 2, 3, 4, 5, 6]) (N := (fun s w => s49_p3 K (s 2) (s 3) (s 10) (s 12) w)) (N' := (s49_p3_den K)) (s := s) (w := w) (p := s49_p4 K (s 2) (s 3) (s 10) w) (q := s49_p4_den K s w) (by kernel_rfl) (by kernel_rfl) (fun s w h => s49_p3_ok K s w @h) (by kernel_rfl) (by kernel_rfl) @h
def s49_p5 (K : Value → World → Prop) (t0 t1 t2 t3 : Value) (w : World) : Prop :=
  cl Try.prog 62 #[t0, t1, t2, t3, (.int .i64 1), (.int .i64 0)] (fun t19 w =>
  exq t19 0 (fun t20 w =>
  exq t19 1 (fun t21 w =>
  boI .neq t21 (.int .i64 0) (fun t23 w =>
  ifb t23
  (cl Try.prog 63 #[t21, (.string ⟨#[82, 111, 111, 109]⟩), t1, t2, t3, (.int .i64 0)] (fun t28 w =>
  K (.tuple #[(.int .i64 0), t28]) w) w)
  (s49_p4 K t2 t3 t20 w)) w) w) w) w
def s49_p5_den (K : Value → World → Prop) : (Nat → Value) → World → Prop := denL Try.prog [(cd (Try.f49.body.getD .skip) [0]), (cd (Try.f49.body.getD .skip) [1, 0]), (cd (Try.f49.body.getD .skip) [1, 1, 0, 0]), (cd (Try.f49.body.getD .skip) [1, 1, 0, 1])] (s49_p4_den K) (fun i => (fun _ _ => False)) (s49_R K)
theorem s49_p5_ok (K : Value → World → Prop) (s : Nat → Value) (w : World) (h : s49_p5 K (s 0) (s 1) (s 2) (s 3) w) : Tr (s49_p5_den K s w) :=
  tr_simple (P := Try.prog) (codes := [(cd (Try.f49.body.getD .skip) [0]), (cd (Try.f49.body.getD .skip) [1, 0]), (cd (Try.f49.body.getD .skip) [1, 1, 0, 0]), (cd (Try.f49.body.getD .skip) [1, 1, 0, 1])]) (N := (fun s w => s49_p4 K (s 2) (s 3) (s 10) w)) (N' := (s49_p4_den K)) (X := (fun i => (fun _ _ => False))) (X' := (fun i => (fun _ _ => False))) (R := s49_R K) (s := s) (w := w) (p := s49_p5 K (s 0) (s 1) (s 2) (s 3) w) (q := s49_p5_den K s w) (fun s w h => s49_p4_ok K s w @h) (fun i => tr_id) (by kernel_rfl) (by kernel_rfl) @h
/-- the call, from the text -/
theorem c49 (t0 t1 t2 t3 : Value) {K : Value → World → Prop} {w : World} (h : s49_p5 K t0 t1 t2 t3 w) : cl Try.prog 49 #[t0, t1, t2, t3] K w :=
  calls_of_tr (c := (Try.f49.body.getD .skip)) (fn := Try.f49) (q := s49_p5_den K (st0 #[t0, t1, t2, t3]) w) Try.func49 (by kernel_rfl) (by kernel_rfl) (Nat.le_of_ble_eq_true (by kernel_rfl)) (by kernel_rfl) (by kernel_rfl) (s49_p5_ok K (st0 #[t0, t1, t2, t3]) w @h)

/-! ### function 50 : (*e2e.slots.Tables).FirstFit -/
def s50_R (K : Value → World → Prop) (s : Nat → Value) (w : World) : Prop := retv Try.prog s Try.f50.results.toList (fun vs => K (pack vs) w) w
def s50_p1 (K : Value → World → Prop) (t1 t2 t4 t5 : Value) (w : World) : Prop :=
  cl Try.prog 63 #[(.int .i64 10), (.string ⟨#[70, 105, 114, 115, 116, 70, 105, 116]⟩), t1, t2, t4, t5] (fun t71 w =>
  K (.tuple #[(.int .i64 0), t71]) w) w
def s50_p1_den (K : Value → World → Prop) : (Nat → Value) → World → Prop := denL Try.prog [(cd (Try.f50.body.getD .skip) [1, 1, 1, 1, 1, 1, 1, 0]), (cd (Try.f50.body.getD .skip) [1, 1, 1, 1, 1, 1, 1, 1])] (fun _ _ => False) (fun i => (fun _ _ => False)) (s50_R K)
theorem s50_p1_ok (K : Value → World → Prop) (s : Nat → Value) (w : World) (h : s50_p1 K (s 1) (s 2) (s 4) (s 5) w) : Tr (s50_p1_den K s w) :=
  tr_simple (P := Try.prog) (codes := [(cd (Try.f50.body.getD .skip) [1, 1, 1, 1, 1, 1, 1, 0]), (cd (Try.f50.body.getD .skip) [1, 1, 1, 1, 1, 1, 1, 1])]) (N := (fun _ _ => False)) (N' := (fun _ _ => False)) (X := (fun i => (fun _ _ => False))) (X' := (fun i => (fun _ _ => False))) (R := s50_R K) (s := s) (w := w) (p := s50_p1 K (s 1) (s 2) (s 4) (s 5) w) (q := s50_p1_den K s w) tr_id (fun i => tr_id) (by kernel_rfl) (by kernel_rfl) @h
def s50_p2 (K : Value → World → Prop) (t1 t2 t3 t4 t5 t14 : Value) (w : World) : Prop :=
  boI .leq t2 t3 (fun t55 w =>
  ifb t55
  (cl Try.prog 73 #[t14, t2, t3, t4, t5] (fun t62 w =>
  exq t62 0 (fun t63 w =>
  exq t62 1 (fun t64 w =>
  ifb t64
  (K (.tuple #[t63, .nilIface]) w)
  (s50_p1 K t1 t2 t4 t5 w)) w) w) w)
  (s50_p1 K t1 t2 t4 t5 w)) w
def s50_p2_den (K : Value → World → Prop) : (Nat → Value) → World → Prop := denL Try.prog [(cd (Try.f50.body.getD .skip) [1, 1, 1, 1, 1, 1, 0, 0]), (cd (Try.f50.body.getD .skip) [1, 1, 1, 1, 1, 1, 0, 1])] (s50_p1_den K) (fun i => (fun _ _ => False)) (s50_R K)
theorem s50_p2_ok (K : Value → World → Prop) (s : Nat → Value) (w : World) (h : s50_p2 K (s 1) (s 2) (s 3) (s 4) (s 5) (s 14) w) : Tr (s50_p2_den K s w) :=
  tr_simple (P := Try.prog) (codes := [(cd (Try.f50.body.getD .skip) [1, 1, 1, 1, 1, 1, 0, 0]), (cd (Try.f50.body.getD .skip) [1, 1, 1, 1, 1, 1, 0, 1])]) (N := (fun s w => s50_p1 K (s 1) (s 2) (s 4) (s 5) w)) (N' := (s50_p1_den K)) (X := (fun i => (fun _ _ => False))) (X' := (fun i => (fun _ _ => False))) (R := s50_R K) (s := s) (w := w) (p := s50_p2 K (s 1) (s 2) (s 3) (s 4) (s 5) (s 14) w) (q := s50_p2_den K s w) (fun s w h => s50_p1_ok K s w @h) (fun i => tr_id) (by kernel_rfl) (by kernel_rfl) @h
def s50_p3 (K : Value → World → Prop) (t1 t2 t3 t4 t5 t14 t17 : Value) (w : World) : Prop :=
  boI .gtr t3 t17 (fun t51 w =>
  ifb t51
  (s50_p2 K t1 t2 t17 t4 t5 t14 w)
  (s50_p2 K t1 t2 t3 t4 t5 t14 w)) w
def s50_p3_den (K : Value → World → Prop) : (Nat → Value) → World → Prop := denL Try.prog [(cd (Try.f50.body.getD .skip) [1, 1, 1, 1, 1, 0, 0]), (cd (Try.f50.body.getD .skip) [1, 1, 1, 1, 1, 0, 1])] (s50_p2_den K) (fun i => (fun _ _ => False)) (s50_R K)
theorem s50_p3_ok (K : Value → World → Prop) (s : Nat → Value) (w : World) (h : s50_p3 K (s 1) (s 2) (s 3) (s 4) (s 5) (s 14) (s 17) w) : Tr (s50_p3_den K s w) :=
  tr_simple (P := Try.prog) (codes := [(cd (Try.f50.body.getD .skip) [1, 1, 1, 1, 1, 0, 0]), (cd (Try.f50.body.getD .skip) [1, 1, 1, 1, 1, 0, 1])]) (N := (fun s w => s50_p2 K (s 1) (s 2) (s 3) (s 4) (s 5) (s 14) w)) (N' := (s50_p2_den K)) (X := (fun i => (fun _ _ => False))) (X' := (fun i => (fun _ _ => False))) (R := s50_R K) (s := s) (w := w) (p := s50_p3 K (s 1) (s 2) (s 3) (s 4) (s 5) (s 14) (s 17) w) (q := s50_p3_den K s w) (fun s w h => s50_p2_ok K s w @h) (fun i => tr_id) (by kernel_rfl) (by kernel_rfl) @h
def s50_p4 (K : Value → World → Prop) (t0 t1 t2 t3 t4 t5 : Value) (w : World) : Prop :=
  nck t0 (fun t24 w =>
  fd 2 t24 (fun t25 w =>
  ld1 t25 (fun t26 w =>
  cl Try.prog 62 #[t0, t1, t26, t4, t5, (.int .i64 0)] (fun t29 w =>
  exq t29 0 (fun t30 w =>
  exq t29 1 (fun t31 w =>
  boI .neq t31 (.int .i64 0) (fun t33 w =>
  ifb t33
  (cl Try.prog 63 #[t31, (.string ⟨#[70, 105, 114, 115, 116, 70, 105, 116]⟩), t1, t2, t4, t5] (fun t39 w =>
  K (.tuple #[(.int .i64 0), t39]) w) w)
  (cl Try.prog 35 #[t0] (fun t42 w =>
  exq t42 0 (fun t43 w =>
  exq t42 1 (fun t44 w =>
  boI .lss t2 t43 (fun t47 w =>
  ifb t47
  (s50_p3 K t1 t43 t3 t4 t5 t30 t44 w)
  (s50_p3 K t1 t2 t3 t4 t5 t30 t44 w)) w) w) w) w)) w) w) w) w) w) w) w
def s50_p4_den (K : Value → World → Prop) : (Nat → Value) → World → Prop := denL Try.prog [(cd (Try.f50.body.getD .skip) [0]), (cd (Try.f50.body.getD .skip) [1, 0]), (cd (Try.f50.body.getD .skip) [1, 1, 0, 0]), (cd (Try.f50.body.getD .skip) [1, 1, 0, 1]), (cd (Try.f50.body.getD .skip) [1, 1, 1, 0]), (cd (Try.f50.body.getD .skip) [1, 1, 1, 1, 0, 0]), (cd (Try.f50.body.getD .skip) [1, 1, 1, 1, 0, 1])] (s50_p3_den K) (fun i => (fun _ _ => False)) (s50_R K)
theorem s50_p4_ok (K : Value → World → Prop) (s : Nat → Value) (w : World) (h : s50_p4 K (s 0) (s 1) (s 2) (s 3) (s 4) (s 5) w) : Tr (s50_p4_den K s w) :=
  tr_simple (P := Try.prog) (codes := [(cd (Try.f50.body.getD .skip) [0]), (cd (Try.f50.body.getD .skip) [1, 0]), (cd (Try.f50.body.getD .skip) [1, 1, 0, 0]), (cd (Try.f50.body.getD .skip) [1, 1, 0, 1]), (cd (Try.f50.body.getD .skip) [1, 1, 1, 0]), (cd (Try.f50.body.getD .skip) [1, 1, 1, 1, 0, 0]), (cd (Try.f50.body.getD .skip) [1, 1, 1, 1, 0, 1])]) (N := (fun s w => s50_p3 K (s 1) (s 2) (s 3) (s 4) (s 5) (s 14) (s 17) w)) (N' := (s50_p3_den K)) (X := (fun i => (fun _ _ => False))) (X' := (fun i => (fun _ _ => False))) (R := s50_R K) (s := s) (w := w) (p := s50_p4 K (s 0) (s 1) (s 2) (s 3) (s 4) (s 5) w) (q := s50_p4_den K s w) (fun s w h => s50_p3_ok K s w @h) (fun i => tr_id) (by kernel_rfl) (by kernel_rfl) @h
/-- the call, from the text -/
theorem c50 (t0 t1 t2 t3 t4 t5 : Value) {K : Value → World → Prop} {w : World} (h : s50_p4 K t0 t1 t2 t3 t4 t5 w) : cl Try.prog 50 #[t0, t1, t2, t3, t4, t5] K w :=
  calls_of_tr (c := (Try.f50.body.getD .skip)) (fn := Try.f50) (q := s50_p4_den K (st0 #[t0, t1, t2, t3, t4, t5]) w) Try.func50 (by kernel_rfl) (by kernel_rfl) (Nat.le_of_ble_eq_true (by kernel_rfl)) (by kernel_rfl) (by kernel_rfl) (s50_p4_ok K (st0 #[t0, t1, t2, t3, t4, t5]) w @h)

/-! ### function 51 : (*e2e.slots.Tables).Admitted -/
def s51_R (K : Value → World → Prop) (s : Nat → Value) (w : World) : Prop := retv Try.prog s Try.f51.results.toList (fun vs => K (pack vs) w) w
def s51_p1 (K : Value → World → Prop) (t0 t1 t2 t3 : Value) (w : World) : Prop :=
  cl Try.prog 62 #[t0, t1, t2, t3, (.int .i64 1), (.int .i64 2)] (fun t17 w =>
  exq t17 0 (fun t18 w =>
  exq t17 1 (fun t19 w =>
  boI .neq t19 (.int .i64 0) (fun t21 w =>
  ifb t21
  (cl Try.prog 63 #[t19, (.string ⟨#[65, 100, 109, 105, 116, 116, 101, 100]⟩), t1, t2, t3, (.int .i64 0)] (fun t26 w =>
  K (.tuple #[(.int .i64 0), t26]) w) w)
  (cl Try.prog 65 #[t18, t2, t3] (fun t30 w =>
  K (.tuple #[t30, .nilIface]) w) w)) w) w) w) w
def s51_p1_den (K : Value → World → Prop) : (Nat → Value) → World → Prop := denL Try.prog [(cd (Try.f51.body.getD .skip) [0]), (cd (Try.f51.body.getD .skip) [1, 0]), (cd (Try.f51.body.getD .skip) [1, 1, 0, 0]), (cd (Try.f51.body.getD .skip) [1, 1, 0, 1]), (cd (Try.f51.body.getD .skip) [1, 1, 1, 0]), (cd (Try.f51.body.getD .skip) [1, 1, 1, 1])] (fun _ _ => False) (fun i => (fun _ _ => False)) (s51_R K)
theorem s51_p1_ok (K : Value → World → Prop) (s : Nat → Value) (w : World) (h : s51_p1 K (s 0) (s 1) (s 2) (s 3) w) : Tr (s51_p1_den K s w) :=
  tr_simple (P := Try.prog) (codes := [(cd (Try.f51.body.getD .skip) [0]), (cd (Try.f51.body.getD .skip) [1, 0]), (cd (Try.f51.body.getD .skip) [1, 1, 0, 0]), (cd (Try.f51.body.getD .skip) [1, 1, 0, 1]), (cd (Try.f51.body.getD .skip) [1, 1, 1, 0]), (cd (Try.f51.body.getD .skip) [1, 1, 1, 1])]) (N := (fun _ _ => False)) (N' := (fun _ _ => False)) (X := (fun i => (fun _ _ => False))) (X' := (fun i => (fun _ _ => False))) (R := s51_R K) (s := s) (w := w) (p := s51_p1 K (s 0) (s 1) (s 2) (s 3) w) (q := s51_p1_den K s w) tr_id (fun i => tr_id) (by kernel_rfl) (by kernel_rfl) @h
/-- the call, from the text -/
theorem c51 (t0 t1 t2 t3 : Value) {K : Value → World → Prop} {w : World} (h : s51_p1 K t0 t1 t2 t3 w) : cl Try.prog 51 #[t0, t1, t2, t3] K w :=
  calls_of_tr (c := (Try.f51.body.getD .skip)) (fn := Try.f51) (q := s51_p1_den K (st0 #[t0, t1, t2, t3]) w) Try.func51 (by kernel_rfl) (by kernel_rfl) (Nat.le_of_ble_eq_true (by kernel_rfl)) (by kernel_rfl) (by kernel_rfl) (s51_p1_ok K (st0 #[t0, t1, t2, t3]) w @h)

/-! ### function 52 : (*e2e.slotsm.Tables).Admit -/
def s52_R (K : Value → World → Prop) (s : Nat → Value) (w : World) : Prop := retv Try.prog s Try.f52.results.toList (fun vs => K (pack vs) w) w
def s52_p1 (K : Value → World → Prop) (t11 : Value) (w : World) : Prop :=
  K t11 w
def s52_p1_den (K : Value → World → Prop) : (Nat → Value) → World → Prop := denL Try.prog [(cd (Try.f52.body.getD .skip) [1, 1, 1, 0]), (cd (Try.f52.body.getD .skip) [1, 1, 1, 1])] (fun _ _ => False) (fun i => (fun _ _ => False)) (s52_R K)
theorem s52_p1_ok (K : Value → World → Prop) (s : Nat → Value) (w : World) (h : s52_p1 K (s 11) w) : Tr (s52_p1_den K s w) :=
  tr_simple (P := Try.prog) (codes := [(cd (Try.f52.body.getD .skip) [1, 1, 1, 0]), (cd (Try.f52.body.getD .skip) [1, 1, 1, 1])]) (N := (fun _ _ => False)) (N' := (fun _ _ => False)) (X := (fun i => (fun _ _ => False))) (X' := (fun i => (fun _ _ => False))) (R := s52_R K) (s := s) (w := w) (p := s52_p1 K (s 11) w) (q := s52_p1_den K s w) tr_id (fun i => tr_id) (by kernel_rfl) (by kernel_rfl) @h
def s52_p2 (K : Value → World → Prop) (t0 t1 t2 t3 t4 : Value) (w : World) : Prop :=
  cl Try.prog 55 #[t0, t1, t2, t3, t4] (fun t17 w =>
  boI .eql t17 (.int .i64 0) (fun t19 w =>
  ifb t19
  (nck t0 (fun t22 w =>
  fd 4 t22 (fun t23 w =>
  ld1 t23 (fun t24 w =>
  bdq [(.int .i64 0), (.int .i64 0), (.int .i64 0), (.int .i64 0)] [(some (0, 1), t1), (some (1, 1), t2), (some (2, 1), t3), (some (3, 1), t4)] (fun t29 w =>
  bsq 105 [(.int .i64 0), (.int .i64 0), (.int .i64 0), (.int .i64 0)] 1 [(some (0, 4), t29)] (fun t30 w =>
  apq 105 [(.int .i64 0), (.int .i64 0), (.int .i64 0), (.int .i64 0)] 32 t24 t30 (fun t31 w =>
  nck t0 (fun t32 w =>
  fd 4 t32 (fun t33 w =>
  st1 t33 t31 (fun w =>
  s52_p1 K t17 w) w) w) w) w) w) w) w) w) w)
  (s52_p1 K t17 w)) w) w
def s52_p2_den (K : Value → World → Prop) : (Nat → Value) → World → Prop := denL Try.prog [(cd (Try.f52.body.getD .skip) [0]), (cd (Try.f52.body.getD .skip) [1, 0]), (cd (Try.f52.body.getD .skip) [1, 1, 0, 0]), (cd (Try.f52.body.getD .skip) [1, 1, 0, 1])] (s52_p1_den K) (fun i => (fun _ _ => False)) (s52_R K)
theorem s52_p2_ok (K : Value → World → Prop) (s : Nat → Value) (w : World) (h : s52_p2 K (s 0) (s 1) (s 2) (s 3) (s 4) w) : Tr (s52_p2_den K s w) :=
  tr_simple (P := Try.prog) (codes := [(cd (Try.f52.body.getD .skip) [0]), (cd (Try.f52.body.getD .skip) [1, 0]), (cd (Try.f52.body.getD .skip) [1, 1, 0, 0]), (cd (Try.f52.body.getD .skip) [1, 1, 0, 1])]) (N := (fun s w => s52_p1 K (s 11) w)) (N' := (s52_p1_den K)) (X := (fun i => (fun _ _ => False))) (X' := (fun i => (fun _ _ => False))) (R := s52_R K) (s := s) (w := w) (p := s52_p2 K (s 0) (s 1) (s 2) (s 3) (s 4) w) (q := s52_p2_den K s w) (fun s w h => s52_p1_ok K s w @h) (fun i => tr_id) (by kernel_rfl) (by kernel_rfl) @h
/-- the call, from the text -/
theorem c52 (t0 t1 t2 t3 t4 : Value) {K : Value → World → Prop} {w : World} (h : s52_p2 K t0 t1 t2 t3 t4 w) : cl Try.prog 52 #[t0, t1, t2, t3, t4] K w :=
  calls_of_tr (c := (Try.f52.body.getD .skip)) (fn := Try.f52) (q := s52_p2_den K (st0 #[t0, t1, t2, t3, t4]) w) Try.func52 (by kernel_rfl) (by kernel_rfl) (Nat.le_of_ble_eq_true (by kernel_rfl)) (by kernel_rfl) (by kernel_rfl) (s52_p2_ok K (st0 #[t0, t1, t2, t3, t4]) w @h)

/-! ### function 53 : (*e2e.slotsm.Tables).Release -/
def s53_R (K : Value → World → Prop) (s : Nat → Value) (w : World) : Prop := retv Try.prog s Try.f53.results.toList (fun vs => K (pack vs) w) w
def s53_p1 (K : Value → World → Prop) (t0 t1 t2 t3 t4 : Value) (w : World) : Prop :=
  cl Try.prog 74 #[t0, t1, t3, t4] (fun t16 w =>
  boI .neq t16 (.int .i64 0) (fun t18 w =>
  ifb t18
  (K t16 w)
  (cl Try.prog 75 #[t0, t1, t2] (fun t23 w =>
  un .not t23 (fun t24 w =>
  ifb t24
  (K (.int .i64 4) w)
  (cl Try.prog 61 #[t0, t1, t2, t3] (fun t30 w =>
  boI .gtr t4 t30 (fun t31 w =>
  ifb t31
  (K (.int .i64 7) w)
  (nck t0 (fun t34 w =>
  fd 4 t34 (fun t35 w =>
  ld1 t35 (fun t36 w =>
  un .neg t4 (fun t41 w =>
  bdq [(.int .i64 0), (.int .i64 0), (.int .i64 0), (.int .i64 0)] [(some (0, 1), t1), (some (1, 1), t2), (some (2, 1), t3), (some (3, 1), t41)] (fun t42 w =>
  bsq 105 [(.int .i64 0), (.int .i64 0), (.int .i64 0), (.int .i64 0)] 1 [(some (0, 4), t42)] (fun t43 w =>
  apq 105 [(.int .i64 0), (.int .i64 0), (.int .i64 0), (.int .i64 0)] 32 t36 t43 (fun t44 w =>
  nck t0 (fun t45 w =>
  fd 4 t45 (fun t46 w =>
  st1 t46 t44 (fun w =>
  K (.int .i64 0) w) w) w) w) w) w) w) w) w) w) w)) w) w)) w) w)) w) w
def s53_p1_den (K : Value → World → Prop) : (Nat → Value) → World → Prop := denL Try.prog [(cd (Try.f53.body.getD .skip) [0]), (cd (Try.f53.body.getD .skip) [1, 0, 0]), (cd (Try.f53.body.getD .skip) [1, 0, 1, 0]), (cd (Try.f53.body.getD .skip) [1, 0, 1, 1]), (cd (Try.f53.body.getD .skip) [1, 1, 0, 0]), (cd (Try.f53.body.getD .skip) [1, 1, 0, 1]), (cd (Try.f53.body.getD .skip) [1, 1, 1, 0, 0]), (cd (Try.f53.body.getD .skip) [1, 1, 1, 0, 1]), (cd (Try.f53.body.getD .skip) [1, 1, 1, 1, 0]), (cd (Try.f53.body.getD .skip) [1, 1, 1, 1, 1, 0]), (cd (Try.f53.body.getD .skip) [1, 1, 1, 1, 1, 1])] (fun _ _ => False) (fun i => (fun _ _ => False)) (s53_R K)
theorem s53_p1_ok (K : Value → World → Prop) (s : Nat → Value) (w : World) (h : s53_p1 K (s 0) (s 1) (s 2) (s 3) (s 4) w) : Tr (s53_p1_den K s w) :=
  tr_simple (P := Try.prog) (codes := [(cd (Try.f53.body.getD .skip) [0]), (cd (Try.f53.body.getD .skip) [1, 0, 0]), (cd (Try.f53.body.getD .skip) [1, 0, 1, 0]), (cd (Try.f53.body.getD .skip) [1, 0, 1, 1]), (cd (Try.f53.body.getD .skip) [1, 1, 0, 0]), (cd (Try.f53.body.getD .skip) [1, 1, 0, 1]), (cd (Try.f53.body.getD .skip) [1, 1, 1, 0, 0]), (cd (Try.f53.body.getD .skip) [1, 1, 1, 0, 1]), (cd (Try.f53.body.getD .skip) [1, 1, 1, 1, 0]), (cd (Try.f53.body.getD .skip) [1, 1, 1, 1, 1, 0]), (cd (Try.f53.body.getD .skip) [1, 1, 1, 1, 1, 1])]) (N := (fun _ _ => False)) (N' := (fun _ _ => False)) (X := (fun i => (fun _ _ => False))) (X' := (fun i => (fun _ _ => False))) (R := s53_R K) (s := s) (w := w) (p := s53_p1 K (s 0) (s 1) (s 2) (s 3) (s 4) w) (q := s53_p1_den K s w) tr_id (fun i => tr_id) (by kernel_rfl) (by kernel_rfl) @h
/-- the call, from the text -/
theorem c53 (t0 t1 t2 t3 t4 : Value) {K : Value → World → Prop} {w : World} (h : s53_p1 K t0 t1 t2 t3 t4 w) : cl Try.prog 53 #[t0, t1, t2, t3, t4] K w :=
  calls_of_tr (c := (Try.f53.body.getD .skip)) (fn := Try.f53) (q := s53_p1_den K (st0 #[t0, t1, t2, t3, t4]) w) Try.func53 (by kernel_rfl) (by kernel_rfl) (Nat.le_of_ble_eq_true (by kernel_rfl)) (by kernel_rfl) (by kernel_rfl) (s53_p1_ok K (st0 #[t0, t1, t2, t3, t4]) w @h)

/-! ### function 54 : (*e2e.slotsm.Tables).Advance -/
def s54_R (K : Value → World → Prop) (s : Nat → Value) (w : World) : Prop := retv Try.prog s Try.f54.results.toList (fun vs => K (pack vs) w) w
def s54_p1 (K : Value → World → Prop) (t0 t1 t18 : Value) (w : World) : Prop :=
  ifb t18
  (K (.int .i64 9) w)
  (nck t0 (fun t20 w =>
  fd 3 t20 (fun t21 w =>
  ld1 t21 (fun t22 w =>
  boI .add t22 t1 (fun t24 w =>
  nck t0 (fun t25 w =>
  fd 3 t25 (fun t26 w =>
  st1 t26 t24 (fun w =>
  K (.int .i64 0) w) w) w) w) w) w) w) w)
def s54_p1_den (K : Value → World → Prop) : (Nat → Value) → World → Prop := denL Try.prog [(cd (Try.f54.body.getD .skip) [1, 1, 0, 1]), (cd (Try.f54.body.getD .skip) [1, 1, 1, 0]), (cd (Try.f54.body.getD .skip) [1, 1, 1, 1, 0]), (cd (Try.f54.body.getD .skip) [1, 1, 1, 1, 1])] (fun _ _ => False) (fun i => (fun _ _ => False)) (s54_R K)
theorem s54_p1_ok (K : Value → World → Prop) (s : Nat → Value) (w : World) (h : s54_p1 K (s 0) (s 1) (s 18) w) : Tr (s54_p1_den K s w) :=
  tr_simple (P := Try.prog) (codes := [(cd (Try.f54.body.getD .skip) [1, 1, 0, 1]), (cd (Try.f54.body.getD .skip) [1, 1, 1, 0]), (cd (Try.f54.body.getD .skip) [1, 1, 1, 1, 0]), (cd (Try.f54.body.getD .skip) [1, 1, 1, 1, 1])]) (N := (fun _ _ => False)) (N' := (fun _ _ => False)) (X := (fun i => (fun _ _ => False))) (X' := (fun i => (fun _ _ => False))) (R := s54_R K) (s := s) (w := w) (p := s54_p1 K (s 0) (s 1) (s 18) w) (q := s54_p1_den K s w) tr_id (fun i => tr_id) (by kernel_rfl) (by kernel_rfl) @h
def s54_p2_d (K : Value → World → Prop) (t0 t1 : Value) (w0 w : World) : Prop :=
  nck t0 (fun t9 _ =>
  fd 0 t9 (fun t10 _ =>
  fd 1 t10 (fun t11 _ =>
  ld1 t11 (fun t12 _ =>
  nck t0 (fun t14 _ =>
  fd 3 t14 (fun t15 _ =>
  ld1 t15 (fun t16 _ =>
  boI .sub t12 t16 (fun t17 _ =>
  boI .gtr t1 t17 (fun t18 _ =>
  s54_p1 K t0 t1 t18 w) w0) w0) w0) w0) w0) w0) w0) w0) w0
def s54_p2 (K : Value → World → Prop) (t0 t1 : Value) (w : World) : Prop := s54_p2_d K t0 t1 (drw w) (drw w)
def s54_p2_den (K : Value → World → Prop) : (Nat → Value) → World → Prop := denL Try.prog [(cd (Try.f54.body.getD .skip) [1, 1, 0, 0])] (s54_p1_den K) (fun i => (fun _ _ => False)) (s54_R K)
theorem s54_p2_ok (K : Value → World → Prop) (s : Nat → Value) (w : World) (h : s54_p2 K (s 0) (s 1) w) : Tr (s54_p2_den K s w) :=
  tr_draw (P := Try.prog) (ops := (ro (cd (Try.f54.body.getD .skip) [1, 1, 0, 0]))) (ms := [0, 0, 2, 6, 14, 30, 0, 64, 192, 448, 1022, 2047]) (cs := [0, 1, 2, 3, 4, 5, 6, 7, 8, 9, 10, 11]) (N := (fun s w => s54_p1 K (s 0) (s 1) (s 18) w)) (N' := (s54_p1_den K)) (s := s) (w := w) (p := s54_p2 K (s 0) (s 1) w) (q := s54_p2_den K s w) (by kernel_rfl) (by kernel_rfl) (fun s w h => s54_p1_ok K s w @h) (by kernel_rfl) (by kernel_rfl) @h
def s54_p3 (K : Value → World → Prop) (t0 t1 : Value) (w : World) : Prop :=
  boI .lss t1 (.int .i64 0) (fun t6 w =>
  ifb t6
  (K (.int .i64 8) w)
  (s54_p2 K t0 t1 w)) w
def s54_p3_den (K : Value → World → Prop) : (Nat → Value) → World → Prop := denL Try.prog [(cd (Try.f54.body.getD .skip) [0]), (cd (Try.f54.body.getD .skip) [1, 0, 0]), (cd (Try.f54.body.getD .skip) [1, 0, 1])] (s54_p2_den K) (fun i => (fun _ _ => False)) (s54_R K)
theorem s54_p3_ok (K : Value → World → Prop) (s : Nat → Value) (w : World) (h : s54_p3 K (s 0) (s 1) w) : Tr (s54_p3_den K s w) :=
  tr_simple (P := Try.prog) (codes := [(cd (Try.f54.body.getD .skip) [0]), (cd (Try.f54.body.getD .skip) [1, 0, 0]), (cd (Try.f54.body.getD .skip) [1, 0, 1])]) (N := (fun s w => s54_p2 K (s 0) (s 1) w)) (N' := (s54_p2_den K)) (X := (fun i => (fun _ _ => False))) (X' := (fun i => (fun _ _ => False))) (R := s54_R K) (s := s) (w := w) (p := s54_p3 K (s 0) (s 1) w) (q := s54_p3_den K s w) (fun s w h => s54_p2_ok K s w @h) (fun i => tr_id) (by kernel_rfl) (by kernel_rfl) @h
/-- the call, from the text -/
theorem c54 (t0 t1 : Value) {K : Value → World → Prop} {w : World} (h : s54_p3 K t0 t1 w) : cl Try.prog 54 #[t0, t1] K w :=
  calls_of_tr (c := (Try.f54.body.getD .skip)) (fn := Try.f54) (q := s54_p3_den K (st0 #[t0, t1]) w) Try.func54 (by kernel_rfl) (by kernel_rfl) (Nat.le_of_ble_eq_true (by kernel_rfl)) (by kernel_rfl) (by kernel_rfl) (s54_p3_ok K (st0 #[t0, t1]) w @h)

/-! ### function 55 : (*e2e.slotsm.Tables).Fits -/
def s55_R (K : Value → World → Prop) (s : Nat → Value) (w : World) : Prop := retv Try.prog s Try.f55.results.toList (fun vs => K (pack vs) w) w
def s55_p1 (K : Value → World → Prop) (t63 : Value) (w : World) : Prop :=
  ifb t63
  (K (.int .i64 6) w)
  (K (.int .i64 0) w)
def s55_p1_den (K : Value → World → Prop) : (Nat → Value) → World → Prop := denL Try.prog [(cd (Try.f55.body.getD .skip) [1, 1, 1, 1, 1, 0, 1]), (cd (Try.f55.body.getD .skip) [1, 1, 1, 1, 1, 1, 0]), (cd (Try.f55.body.getD .skip) [1, 1, 1, 1, 1, 1, 1])] (fun _ _ => False) (fun i => (fun _ _ => False)) (s55_R K)
theorem s55_p1_ok (K : Value → World → Prop) (s : Nat → Value) (w : World) (h : s55_p1 K (s 63) w) : Tr (s55_p1_den K s w) :=
  tr_simple (P := Try.prog) (codes := [(cd (Try.f55.body.getD .skip) [1, 1, 1, 1, 1, 0, 1]), (cd (Try.f55.body.getD .skip) [1, 1, 1, 1, 1, 1, 0]), (cd (Try.f55.body.getD .skip) [1, 1, 1, 1, 1, 1, 1])]) (N := (fun _ _ => False)) (N' := (fun _ _ => False)) (X := (fun i => (fun _ _ => False))) (X' := (fun i => (fun _ _ => False))) (R := s55_R K) (s := s) (w := w) (p := s55_p1 K (s 63) w) (q := s55_p1_den K s w) tr_id (fun i => tr_id) (by kernel_rfl) (by kernel_rfl) @h
def s55_p2_d (K : Value → World → Prop) (t0 t1 t2 t3 t4 t12 : Value) (w0 w : World) : Prop :=
  fd 2 t12 (fun t54 _ =>
  ixa 3 1 t54 t3 (fun t55 _ =>
  ld1 t55 (fun t56 _ =>
  cl Try.prog 61 #[t0, t1, t2, t3] (fun t61 w =>
  Below w0.heap.size w0 w ∧
  boI .sub t56 t61 (fun t62 w =>
  Below w0.heap.size w0 w ∧
  boI .gtr t4 t62 (fun t63 w =>
  s55_p1 K t63 w) w) w) w) w0) w0) w0
def s55_p2 (K : Value → World → Prop) (t0 t1 t2 t3 t4 t12 : Value) (w : World) : Prop := s55_p2_d K t0 t1 t2 t3 t4 t12 (drw w) (drw w)
def s55_p2_den (K : Value → World → Prop) : (Nat → Value) → World → Prop := denL Try.prog [(cd (Try.f55.body.getD .skip) [1, 1, 1, 1, 1, 0, 0])] (s55_p1_den K) (fun i => (fun _ _ => False)) (s55_R K)
theorem s55_p2_ok (K : Value → World → Prop) (s : Nat → Value) (w : World) (h : s55_p2 K (s 0) (s 1) (s 2) (s 3) (s 4) (s 12) w) : Tr (s55_p2_den K s w) :=
  tr_draw (P := Try.prog) (ops := (ro (cd (Try.f55.body.getD .skip) [1, 1, 1, 1, 1, 0, 0]))) (ms := [0, 0, 0, 6, 14, 0, 0, 0, 0, 480, 1022, 2047]) (cs := [0, 1, 2, 3, 4, 5, 6, 7, 8]) (N := (fun s w => s55_p1 K (s 63) w)) (N' := (s55_p1_den K)) (s := s) (w := w) (p := s55_p2 K (s 0) (s 1) (s 2) (s 3) (s 4) (s 12) w) (q := s55_p2_den K s w) (by kernel_rfl) (by kernel_rfl) (fun s w h => s55_p1_ok K s w @h) (by kernel_rfl) (by kernel_rfl) @h
def s55_p3 (K : Value → World → Prop) (B1 : List Value → World → Prop) (t0 t1 t2 t3 t4 t12 t13 : Value) (w : World) : Prop :=
  boI .add t13 (.int .i64 1) (fun t42 w =>
  B1 [t0, t1, t2, t3, t4, t12, t42] w) w
def s55_p3_den (K : Value → World → Prop) (M1 : (Nat → Value) → World → Prop) : (Nat → Value) → World → Prop := denL Try.prog [(cd (Try.f55.body.getD .skip) [1, 1, 1, 1, 0, 1, 0, 0, 1, 1])] M1 (fun i => (bif Nat.beq i 0 then (s55_p2_den K) else (fun _ _ => False))) (s55_R K)
theorem s55_p3_ok (K : Value → World → Prop) (B1 : List Value → World → Prop) (s : Nat → Value) (w : World) (h : s55_p3 K B1 (s 0) (s 1) (s 2) (s 3) (s 4) (s 12) (s 13) w) : Tr (s55_p3_den K (fun s w => B1 [s 0, s 1, s 2, s 3, s 4, s 12, s 13] w) s w) :=
  tr_simple (P := Try.prog) (codes := [(cd (Try.f55.body.getD .skip) [1, 1, 1, 1, 0, 1, 0, 0, 1, 1])]) (N := (fun s w => B1 [s 0, s 1, s 2, s 3, s 4, s 12, s 13] w)) (N' := (fun s w => B1 [s 0, s 1, s 2, s 3, s 4, s 12, s 13] w)) (X := (fun i => (bif Nat.beq i 0 then (fun s w => s55_p2 K (s 0) (s 1) (s 2) (s 3) (s 4) (s 12) w) else (fun _ _ => False)))) (X' := (fun i => (bif Nat.beq i 0 then (s55_p2_den K) else (fun _ _ => False)))) (R := s55_R K) (s := s) (w := w) (p := s55_p3 K B1 (s 0) (s 1) (s 2) (s 3) (s 4) (s 12) (s 13) w) (q := s55_p3_den K (fun s w => B1 [s 0, s 1, s 2, s 3, s 4, s 12, s 13] w) s w) tr_id (fun i => (tr_bif (fun s w h => s55_p2_ok K s w @h) tr_id)) (by kernel_rfl) (by kernel_rfl) @h
def s55_p4 (K : Value → World → Prop) (B1 : List Value → World → Prop) (t0 t1 t2 t3 t4 t12 t13 t51 : Value) (w : World) : Prop :=
  ifb t51
  (K (.int .i64 5) w)
  (s55_p3 K B1 t0 t1 t2 t3 t4 t12 t13 w)
def s55_p4_den (K : Value → World → Prop) (M1 : (Nat → Value) → World → Prop) : (Nat → Value) → World → Prop := denL Try.prog [(cd (Try.f55.body.getD .skip) [1, 1, 1, 1, 0, 1, 0, 0, 1, 0, 0, 1])] (s55_p3_den K M1) (fun i => (bif Nat.beq i 1 then (s55_p3_den K M1) else (bif Nat.beq i 0 then (s55_p2_den K) else (fun _ _ => False)))) (s55_R K)
theorem s55_p4_ok (K : Value → World → Prop) (B1 : List Value → World → Prop) (s : Nat → Value) (w : World) (h : s55_p4 K B1 (s 0) (s 1) (s 2) (s 3) (s 4) (s 12) (s 13) (s 51) w) : Tr (s55_p4_den K (fun s w => B1 [s 0, s 1, s 2, s 3, s 4, s 12, s 13] w) s w) :=
  tr_simple (P := Try.prog) (codes := [(cd (Try.f55.body.getD .skip) [1, 1, 1, 1, 0, 1, 0, 0, 1, 0, 0, 1])]) (N := (fun s w => s55_p3 K B1 (s 0) (s 1) (s 2) (s 3) (s 4) (s 12) (s 13) w)) (N' := (s55_p3_den K (fun s w => B1 [s 0, s 1, s 2, s 3, s 4, s 12, s 13] w))) (X := (fun i => (bif Nat.beq i 1 then (fun s w => s55_p3 K B1 (s 0) (s 1) (s 2) (s 3) (s 4) (s 12) (s 13) w) else (bif Nat.beq i 0 then (fun s w => s55_p2 K (s 0) (s 1) (s 2) (s 3) (s 4) (s 12) w) else (fun _ _ => False))))) (X' := (fun i => (bif Nat.beq i 1 then (s55_p3_den K (fun s w => B1 [s 0, s 1, s 2, s 3, s 4, s 12, s 13] w)) else (bif Nat.beq i 0 then (s55_p2_den K) else (fun _ _ => False))))) (R := s55_R K) (s := s) (w := w) (p := s55_p4 K B1 (s 0) (s 1) (s 2) (s 3) (s 4) (s 12) (s 13) (s 51) w) (q := s55_p4_den K (fun s w => B1 [s 0, s 1, s 2, s 3, s 4, s 12, s 13] w) s w) (fun s w h => s55_p3_ok K B1 s w @h) (fun i => (tr_bif (fun s w h => s55_p3_ok K B1 s w @h) (tr_bif (fun s w h => s55_p2_ok K s w @h) tr_id))) (by kernel_rfl) (by kernel_rfl) @h
def s55_p5_d (K : Value → World → Prop) (B1 : List Value → World → Prop) (t0 t1 t2 t3 t4 t12 t13 : Value) (w0 w : World) : Prop :=
  fd 0 t12 (fun t44 _ =>
  ld1 t44 (fun t45 _ =>
  cl Try.prog 24 #[t0, t1, t13] (fun t49 w =>
  Below w0.heap.size w0 w ∧
  boI .sub t45 t49 (fun t50 w =>
  Below w0.heap.size w0 w ∧
  boI .gtr t4 t50 (fun t51 w =>
  s55_p4 K B1 t0 t1 t2 t3 t4 t12 t13 t51 w) w) w) w) w0) w0
def s55_p5 (K : Value → World → Prop) (B1 : List Value → World → Prop) (t0 t1 t2 t3 t4 t12 t13 : Value) (w : World) : Prop := s55_p5_d K B1 t0 t1 t2 t3 t4 t12 t13 (drw w) (drw w)
def s55_p5_den (K : Value → World → Prop) (M1 : (Nat → Value) → World → Prop) : (Nat → Value) → World → Prop := denL Try.prog [(cd (Try.f55.body.getD .skip) [1, 1, 1, 1, 0, 1, 0, 0, 1, 0, 0, 0])] (s55_p4_den K M1) (fun i => (bif Nat.beq i 1 then (s55_p3_den K M1) else (bif Nat.beq i 0 then (s55_p2_den K) else (fun _ _ => False)))) (s55_R K)
theorem s55_p5_ok (K : Value → World → Prop) (B1 : List Value → World → Prop) (s : Nat → Value) (w : World) (h : s55_p5 K B1 (s 0) (s 1) (s 2) (s 3) (s 4) (s 12) (s 13) w) : Tr (s55_p5_den K (fun s w => B1 [s 0, s 1, s 2, s 3, s 4, s 12, s 13] w) s w) :=
  tr_draw (P := Try.prog) (ops := (ro (cd (Try.f55.body.getD .skip) [1, 1, 1, 1, 0, 1, 0, 0, 1, 0, 0, 0]))) (ms := [0, 0, 2, 0, 0, 0, 56, 126, 255]) (cs := [0, 1, 2, 3, 4, 5]) (N := (fun s w => s55_p4 K B1 (s 0) (s 1) (s 2) (s 3) (s 4) (s 12) (s 13) (s 51) w)) (N' := (s55_p4_den K (fun s w => B1 [s 0, s 1, s 2, s 3, s 4, s 12, s 13] w))) (s := s) (w := w) (p := s55_p5 K B1 (s 0) (s 1) (s 2) (s 3) (s 4) (s 12) (s 13) w) (q := s55_p5_den K (fun s w => B1 [s 0, s 1, s 2, s 3, s 4, s 12, s 13] w) s w) (by kernel_rfl) (by kernel_rfl) (fun s w h => s55_p4_ok K B1 s w @h) (by kernel_rfl) (by kernel_rfl) @h
def s55_p6 (K : Value → World → Prop) (B1 : List Value → World → Prop) (t0 t1 t2 t3 t4 t12 t13 : Value) (w : World) : Prop :=
  fd 1 t12 (fun t37 w =>
  ld1 t37 (fun t38 w =>
  boI .add t2 t38 (fun t39 w =>
  boI .lss t13 t39 (fun t40 w =>
  ifb t40
  (s55_p5 K B1 t0 t1 t2 t3 t4 t12 t13 w)
  (s55_p2 K t0 t1 t2 t3 t4 t12 w)) w) w) w) w
def s55_p6_den (K : Value → World → Prop) (M1 : (Nat → Value) → World → Prop) : (Nat → Value) → World → Prop := denL Try.prog [(cd (Try.f55.body.getD .skip) [1, 1, 1, 1, 0, 1, 0, 0, 0, 0]), (cd (Try.f55.body.getD .skip) [1, 1, 1, 1, 0, 1, 0, 0, 0, 1])] (s55_p5_den K M1) (fun i => (bif Nat.beq i 0 then (s55_p2_den K) else (fun _ _ => False))) (s55_R K)
theorem s55_p6_ok (K : Value → World → Prop) (B1 : List Value → World → Prop) (s : Nat → Value) (w : World) (h : s55_p6 K B1 (s 0) (s 1) (s 2) (s 3) (s 4) (s 12) (s 13) w) : Tr (s55_p6_den K (fun s w => B1 [s 0, s 1, s 2, s 3, s 4, s 12, s 13] w) s w) :=
  tr_simple (P := Try.prog) (codes := [(cd (Try.f55.body.getD .skip) [1, 1, 1, 1, 0, 1, 0, 0, 0, 0]), (cd (Try.f55.body.getD .skip) [1, 1, 1, 1, 0, 1, 0, 0, 0, 1])]) (N := (fun s w => s55_p5 K B1 (s 0) (s 1) (s 2) (s 3) (s 4) (s 12) (s 13) w)) (N' := (s55_p5_den K (fun s w => B1 [s 0, s 1, s 2, s 3, s 4, s 12, s 13] w))) (X := (fun i => (bif Nat.beq i 0 then (fun s w => s55_p2 K (s 0) (s 1) (s 2) (s 3) (s 4) (s 12) w) else (fun _ _ => False)))) (X' := (fun i => (bif Nat.beq i 0 then (s55_p2_den K) else (fun _ _ => False)))) (R := s55_R K) (s := s) (w := w) (p := s55_p6 K B1 (s 0) (s 1) (s 2) (s 3) (s 4) (s 12) (s 13) w) (q := s55_p6_den K (fun s w => B1 [s 0, s 1, s 2, s 3, s 4, s 12, s 13] w) s w) (fun s w h => s55_p5_ok K B1 s w @h) (fun i => (tr_bif (fun s w h => s55_p2_ok K s w @h) tr_id)) (by kernel_rfl) (by kernel_rfl) @h
def s55_p7_F (K : Value → World → Prop) (B1 : List Value → World → Prop) (l : List Value) (w : World) : Prop :=
  match l with
  | [t0, t1, t2, t3, t4, t12, t13] => s55_p6 K B1 t0 t1 t2 t3 t4 t12 t13 w
  | _ => False
theorem s55_p7_Fe {K : Value → World → Prop} {B1 : List Value → World → Prop} {t0 t1 t2 t3 t4 t12 t13 : Value} {w : World} : s55_p7_F K B1 [t0, t1, t2, t3, t4, t12, t13] w = s55_p6 K B1 t0 t1 t2 t3 t4 t12 t13 w := by kernel_rfl
def s55_p7 (K : Value → World → Prop) (t0 t1 t2 t3 t4 t12 t13 : Value) (w : World) : Prop :=
  LoopL (s55_p7_F K) [t0, t1, t2, t3, t4, t12, t13] w
def s55_p7_den (K : Value → World → Prop) : (Nat → Value) → World → Prop := fun s w => LoopP (fun M1 s w => s55_p6_den K M1 s w) s w
theorem s55_p7_ok (K : Value → World → Prop) (s : Nat → Value) (w : World) (h : s55_p7 K (s 0) (s 1) (s 2) (s 3) (s 4) (s 12) (s 13) w) : Tr (s55_p7_den K s w) :=
  tr_loop (G := fun N' s w => s55_p6_den K N' s w) (F := s55_p7_F K) (sel := fun s => [s 0, s 1, s 2, s 3, s 4, s 12, s 13]) (s := s) (w := w) (p := s55_p7 K (s 0) (s 1) (s 2) (s 3) (s 4) (s 12) (s 13) w) (q := s55_p7_den K s w) (fun B s w h => s55_p6_ok K B s w @h) (by kernel_rfl) (by kernel_rfl) @h
def s55_p8 (K : Value → World → Prop) (t0 t1 t2 t3 t4 : Value) (w : World) : Prop :=
  cl Try.prog 74 #[t0, t1, t3, t4] (fun t18 w =>
  boI .neq t18 (.int .i64 0) (fun t20 w =>
  ifb t20
  (K t18 w)
  (cl Try.prog 76 #[t0, t2] (fun t24 w =>
  un .not t24 (fun t25 w =>
  ifb t25
  (K (.int .i64 4) w)
  (nck t0 (fun t27 w =>
  fd 0 t27 (fun t28 w =>
  fd 2 t28 (fun t29 w =>
  ld1 t29 (fun t30 w =>
  ixs 5 t30 t1 (fun t32 w =>
  ldn 5 t32 (fun t33 w =>
  nw 59 #[(.int .i64 0), (.int .i64 0), (.int .i64 0), (.int .i64 0), (.int .i64 0)] (fun t12 w =>
  stn 5 t12 t33 (fun w =>
  s55_p7 K t0 t1 t2 t3 t4 t12 t2 w) w) w) w) w) w) w) w) w)) w) w)) w) w
def s55_p8_den (K : Value → World → Prop) : (Nat → Value) → World → Prop := denL Try.prog [(cd (Try.f55.body.getD .skip) [0]), (cd (Try.f55.body.getD .skip) [1, 0, 0]), (cd (Try.f55.body.getD .skip) [1, 0, 1, 0]), (cd (Try.f55.body.getD .skip) [1, 0, 1, 1]), (cd (Try.f55.body.getD .skip) [1, 1, 0, 0]), (cd (Try.f55.body.getD .skip) [1, 1, 0, 1]), (cd (Try.f55.body.getD .skip) [1, 1, 1, 0]), (cd (Try.f55.body.getD .skip) [1, 1, 1, 1, 0, 0])] (s55_p7_den K) (fun i => (fun _ _ => False)) (s55_R K)
theorem s55_p8_ok (K : Value → World → Prop) (s : Nat → Value) (w : World) (h : s55_p8 K (s 0) (s 1) (s 2) (s 3) (s 4) w) : Tr (s55_p8_den K s w) :=
  tr_simple (P := Try.prog) (codes := [(cd (Try.f55.body.getD .skip) [0]), (cd (Try.f55.body.getD .skip) [1, 0, 0]), (cd (Try.f55.body.getD .skip) [1, 0, 1, 0]), (cd (Try.f55.body.getD .skip) [1, 0, 1, 1]), (cd (Try.f55.body.getD .skip) [1, 1, 0, 0]), (cd (Try.f55.body.getD .skip) [1, 1, 0, 1]), (cd (Try.f55.body.getD .skip) [1, 1, 1, 0]), (cd (Try.f55.body.getD .skip) [1, 1, 1, 1, 0, 0])]) (N := (fun s w => s55_p7 K (s 0) (s 1) (s 2) (s 3) (s 4) (s 12) (s 13) w)) (N' := (s55_p7_den K)) (X := (fun i => (fun _ _ => False))) (X' := (fun i => (fun _ _ => False))) (R := s55_R K) (s := s) (w := w) (p := s55_p8 K (s 0) (s 1) (s 2) (s 3) (s 4) w) (q := s55_p8_den K s w) (fun s w h => s55_p7_ok K s w @h) (fun i => tr_id) (by kernel_rfl) (by kernel_rfl) @h
/-- the call, from the text -/
theorem c55 (t0 t1 t2 t3 t4 : Value) {K : Value → World → Prop} {w : World} (h : s55_p8 K t0 t1 t2 t3 t4 w) : cl Try.prog 55 #[t0, t1, t2, t3, t4] K w :=
  calls_of_tr (c := (Try.f55.body.getD .skip)) (fn := Try.f55) (q := s55_p8_den K (st0 #[t0, t1, t2, t3, t4]) w) Try.func55 (by kernel_rfl) (by kernel_rfl) (Nat.le_of_ble_eq_true (by kernel_rfl)) (by kernel_rfl) (by kernel_rfl) (s55_p8_ok K (st0 #[t0, t1, t2, t3, t4]) w @h)

/-! ### function 56 : (*e2e.slotsm.Tables).Room -/
def s56_R (K : Value → World → Prop) (s : Nat → Value) (w : World) : Prop := retv Try.prog s Try.f56.results.toList (fun vs => K (pack vs) w) w
def s56_p1 (K : Value → World → Prop) (w : World) : Prop :=
  K (.tuple #[(.int .i64 0), (.int .i64 0)]) w
def s56_p1_den (K : Value → World → Prop) : (Nat → Value) → World → Prop := denL Try.prog [(cd (Try.f56.body.getD .skip) [1, 1, 1, 1, 0]), (cd (Try.f56.body.getD .skip) [1, 1, 1, 1, 1])] (fun _ _ => False) (fun i => (fun _ _ => False)) (s56_R K)
theorem s56_p1_ok (K : Value → World → Prop) (s : Nat → Value) (w : World) (h : s56_p1 K w) : Tr (s56_p1_den K s w) :=
  tr_simple (P := Try.prog) (codes := [(cd (Try.f56.body.getD .skip) [1, 1, 1, 1, 0]), (cd (Try.f56.body.getD .skip) [1, 1, 1, 1, 1])]) (N := (fun _ _ => False)) (N' := (fun _ _ => False)) (X := (fun i => (fun _ _ => False))) (X' := (fun i => (fun _ _ => False))) (R := s56_R K) (s := s) (w := w) (p := s56_p1 K w) (q := s56_p1_den K s w) tr_id (fun i => tr_id) (by kernel_rfl) (by kernel_rfl) @h
def s56_p2 (K : Value → World → Prop) (B1 : List Value → World → Prop) (t0 t1 t2 t3 t11 : Value) (w : World) : Prop :=
  boI .geq t11 (.int .i64 1) (fun t33 w =>
  ifb t33
  (cl Try.prog 55 #[t0, t1, t2, t3, t11] (fun t41 w =>
  boI .eql t41 (.int .i64 0) (fun t42 w =>
  ifb t42
  (K (.tuple #[t11, (.int .i64 0)]) w)
  (boI .sub t11 (.int .i64 1) (fun t35 w =>
  B1 [t0, t1, t2, t3, t35] w) w)) w) w)
  (s56_p1 K w)) w
def s56_p2_den (K : Value → World → Prop) (M1 : (Nat → Value) → World → Prop) : (Nat → Value) → World → Prop := denL Try.prog [(cd (Try.f56.body.getD .skip) [1, 1, 1, 0, 1, 0, 0, 0, 0]), (cd (Try.f56.body.getD .skip) [1, 1, 1, 0, 1, 0, 0, 0, 1]), (cd (Try.f56.body.getD .skip) [1, 1, 1, 0, 1, 0, 0, 1, 0]), (cd (Try.f56.body.getD .skip) [1, 1, 1, 0, 1, 0, 0, 1, 1])] M1 (fun i => (bif Nat.beq i 0 then (s56_p1_den K) else (fun _ _ => False))) (s56_R K)
theorem s56_p2_ok (K : Value → World → Prop) (B1 : List Value → World → Prop) (s : Nat → Value) (w : World) (h : s56_p2 K B1 (s 0) (s 1) (s 2) (s 3) (s 11) w) : Tr (s56_p2_den K (fun s w => B1 [s 0, s 1, s 2, s 3, s 11] w) s w) :=
  tr_simple (P := Try.prog) (codes := [(cd (Try.f56.body.getD .skip) [1, 1, 1, 0, 1, 0, 0, 0, 0]), (cd (Try.f56.body.getD .skip) [1, 1, 1, 0, 1, 0, 0, 0, 1]), (cd (Try.f56.body.getD .skip) [1, 1, 1, 0, 1, 0, 0, 1, 0]), (cd (Try.f56.body.getD .skip) [1, 1, 1, 0, 1, 0, 0, 1, 1])]) (N := (fun s w => B1 [s 0, s 1, s 2, s 3, s 11] w)) (N' := (fun s w => B1 [s 0, s 1, s 2, s 3, s 11] w)) (X := (fun i => (bif Nat.beq i 0 then (fun s w => s56_p1 K w) else (fun _ _ => False)))) (X' := (fun i => (bif Nat.beq i 0 then (s56_p1_den K) else (fun _ _ => False)))) (R := s56_R K) (s := s) (w := w) (p := s56_p2 K B1 (s 0) (s 1) (s 2) (s 3) (s 11) w) (q := s56_p2_den K (fun s w => B1 [s 0, s 1, s 2, s 3, s 11] w) s w) tr_id (fun i => (tr_bif (fun s w h => s56_p1_ok K s w @h) tr_id)) (by kernel_rfl) (by kernel_rfl) @h
def s56_p3_F (K : Value → World → Prop) (B1 : List Value → World → Prop) (l : List Value) (w : World) : Prop :=
  match l with
  | [t0, t1, t2, t3, t11] => s56_p2 K B1 t0 t1 t2 t3 t11 w
  | _ => False
theorem s56_p3_Fe {K : Value → World → Prop} {B1 : List Value → World → Prop} {t0 t1 t2 t3 t11 : Value} {w : World} : s56_p3_F K B1 [t0, t1, t2, t3, t11] w = s56_p2 K B1 t0 t1 t2 t3 t11 w := by kernel_rfl
def s56_p3 (K : Value → World → Prop) (t0 t1 t2 t3 t11 : Value) (w : World) : Prop :=
  LoopL (s56_p3_F K) [t0, t1, t2, t3, t11] w
def s56_p3_den (K : Value → World → Prop) : (Nat → Value) → World → Prop := fun s w => LoopP (fun M1 s w => s56_p2_den K M1 s w) s w
theorem s56_p3_ok (K : Value → World → Prop) (s : Nat → Value) (w : World) (h : s56_p3 K (s 0) (s 1) (s 2) (s 3) (s 11) w) : Tr (s56_p3_den K s w) :=
  tr_loop (G := fun N' s w => s56_p2_den K N' s w) (F := s56_p3_F K) (sel := fun s => [s 0, s 1, s 2, s 3, s 11]) (s := s) (w := w) (p := s56_p3 K (s 0) (s 1) (s 2) (s 3) (s 11) w) (q := s56_p3_den K s w) (fun B s w h => s56_p2_ok K B s w @h) (by kernel_rfl) (by kernel_rfl) @h
def s56_p4 (K : Value → World → Prop) (t0 t1 t2 t3 : Value) (w : World) : Prop :=
  cl Try.prog 74 #[t0, t1, t3, (.int .i64 1)] (fun t15 w =>
  boI .neq t15 (.int .i64 0) (fun t17 w =>
  ifb t17
  (K (.tuple #[(.int .i64 0), t15]) w)
  (cl Try.prog 76 #[t0, t2] (fun t21 w =>
  un .not t21 (fun t22 w =>
  ifb t22
  (K (.tuple #[(.int .i64 0), (.int .i64 4)]) w)
  (nck t0 (fun t24 w =>
  fd 0 t24 (fun t25 w =>
  fd 2 t25 (fun t26 w =>
  ld1 t26 (fun t27 w =>
  ixs 5 t27 t1 (fun t29 w =>
  fd 0 t29 (fun t30 w =>
  ld1 t30 (fun t31 w =>
  s56_p3 K t0 t1 t2 t3 t31 w) w) w) w) w) w) w) w)) w) w)) w) w
def s56_p4_den (K : Value → World → Prop) : (Nat → Value) → World → Prop := denL Try.prog [(cd (Try.f56.body.getD .skip) [0]), (cd (Try.f56.body.getD .skip) [1, 0, 0]), (cd (Try.f56.body.getD .skip) [1, 0, 1, 0]), (cd (Try.f56.body.getD .skip) [1, 0, 1, 1]), (cd (Try.f56.body.getD .skip) [1, 1, 0, 0]), (cd (Try.f56.body.getD .skip) [1, 1, 0, 1]), (cd (Try.f56.body.getD .skip) [1, 1, 1, 0, 0])] (s56_p3_den K) (fun i => (fun _ _ => False)) (s56_R K)
theorem s56_p4_ok (K : Value → World → Prop) (s : Nat → Value) (w : World) (h : s56_p4 K (s 0) (s 1) (s 2) (s 3) w) : Tr (s56_p4_den K s w) :=
  tr_simple (P := Try.prog) (codes := [(cd (Try.f56.body.getD .skip) [0]), (cd (Try.f56.body.getD .skip) [1, 0, 0]), (cd (Try.f56.body.getD .skip) [1, 0, 1, 0]), (cd (Try.f56.body.getD .skip) [1, 0, 1, 1]), (cd (Try.f56.body.getD .skip) [1, 1, 0, 0]), (cd (Try.f56.body.getD .skip) [1, 1, 0, 1]), (cd (Try.f56.body.getD .skip) [1, 1, 1, 0, 0])]) (N := (fun s w => s56_p3 K (s 0) (s 1) (s 2) (s 3) (s 11) w)) (N' := (s56_p3_den K)) (X := (fun i => (fun _ _ => False))) (X' := (fun i => (fun _ _ => False))) (R := s56_R K) (s := s) (w := w) (p := s56_p4 K (s 0) (s 1) (s 2) (s 3) w) (q := s56_p4_den K s w) (fun s w h => s56_p3_ok K s w @h) (fun i => tr_id) (by kernel_rfl) (by kernel_rfl) @h
/-- the call, from the text -/
theorem c56 (t0 t1 t2 t3 : Value) {K : Value → World → Prop} {w : World} (h : s56_p4 K t0 t1 t2 t3 w) : cl Try.prog 56 #[t0, t1, t2, t3] K w :=
  calls_of_tr (c := (Try.f56.body.getD .skip)) (fn := Try.f56) (q := s56_p4_den K (st0 #[t0, t1, t2, t3]) w) Try.func56 (by kernel_rfl) (by kernel_rfl) (Nat.le_of_ble_eq_true (by kernel_rfl)) (by kernel_rfl) (by kernel_rfl) (s56_p4_ok K (st0 #[t0, t1, t2, t3]) w @h)

/-! ### function 57 : (*e2e.slotsm.Tables).FirstFit -/
def s57_R (K : Value → World → Prop) (s : Nat → Value) (w : World) : Prop := retv Try.prog s Try.f57.results.toList (fun vs => K (pack vs) w) w
def s57_p1 (K : Value → World → Prop) (w : World) : Prop :=
  K (.tuple #[(.int .i64 0), (.int .i64 10)]) w
def s57_p1_den (K : Value → World → Prop) : (Nat → Value) → World → Prop := denL Try.prog [(cd (Try.f57.body.getD .skip) [1, 1, 1, 0]), (cd (Try.f57.body.getD .skip) [1, 1, 1, 1])] (fun _ _ => False) (fun i => (fun _ _ => False)) (s57_R K)
theorem s57_p1_ok (K : Value → World → Prop) (s : Nat → Value) (w : World) (h : s57_p1 K w) : Tr (s57_p1_den K s w) :=
  tr_simple (P := Try.prog) (codes := [(cd (Try.f57.body.getD .skip) [1, 1, 1, 0]), (cd (Try.f57.body.getD .skip) [1, 1, 1, 1])]) (N := (fun _ _ => False)) (N' := (fun _ _ => False)) (X := (fun i => (fun _ _ => False))) (X' := (fun i => (fun _ _ => False))) (R := s57_R K) (s := s) (w := w) (p := s57_p1 K w) (q := s57_p1_den K s w) tr_id (fun i => tr_id) (by kernel_rfl) (by kernel_rfl) @h
def s57_p2 (K : Value → World → Prop) (B1 : List Value → World → Prop) (t0 t1 t2 t3 t4 t5 t15 t39 : Value) (w : World) : Prop :=
  ifb t39
  (boI .leq t2 t15 (fun t44 w =>
  gd t44 true (fun K w => K t15 w) (fun t46 w =>
  gd t44 true (fun K w => K t3 w) (fun t47 w =>
  gd t44 true (boI .leq t46 t47) (fun t48 w =>
  pk t44 t48 (.bool false) (fun t49 w =>
  gd t49 true (fun K w => K t0 w) (fun t51 w =>
  gd t49 true (fun K w => K t1 w) (fun t52 w =>
  gd t49 true (fun K w => K t15 w) (fun t53 w =>
  gd t49 true (fun K w => K t4 w) (fun t54 w =>
  gd t49 true (fun K w => K t5 w) (fun t55 w =>
  gd t49 true (cl Try.prog 55 #[t51, t52, t53, t54, t55]) (fun t56 w =>
  gd t49 true (boI .eql t56 (.int .i64 0)) (fun t57 w =>
  pk t49 t57 (.bool false) (fun t58 w =>
  ifb t58
  (K (.tuple #[t15, (.int .i64 0)]) w)
  (boI .add t15 (.int .i64 1) (fun t41 w =>
  B1 [t0, t1, t2, t3, t4, t5, t41] w) w)) w) w) w) w) w) w) w) w) w) w) w) w) w)
  (s57_p1 K w)
def s57_p2_den (K : Value → World → Prop) (M1 : (Nat → Value) → World → Prop) : (Nat → Value) → World → Prop := denL Try.prog [(cd (Try.f57.body.getD .skip) [1, 1, 0, 1, 0, 0, 0, 1]), (cd (Try.f57.body.getD .skip) [1, 1, 0, 1, 0, 0, 1, 0]), (cd (Try.f57.body.getD .skip) [1, 1, 0, 1, 0, 0, 1, 1])] M1 (fun i => (bif Nat.beq i 0 then (s57_p1_den K) else (fun _ _ => False))) (s57_R K)
theorem s57_p2_ok (K : Value → World → Prop) (B1 : List Value → World → Prop) (s : Nat → Value) (w : World) (h : s57_p2 K B1 (s 0) (s 1) (s 2) (s 3) (s 4) (s 5) (s 15) (s 39) w) : Tr (s57_p2_den K (fun s w => B1 [s 0, s 1, s 2, s 3, s 4, s 5, s 15] w) s w) :=
  tr_simple (P := Try.prog) (codes := [(cd (Try.f57.body.getD .skip) [1, 1, 0, 1, 0, 0, 0, 1]), (cd (Try.f57.body.getD .skip) [1, 1, 0, 1, 0, 0, 1, 0]), (cd (Try.f57.body.getD .skip) [1, 1, 0, 1, 0, 0, 1, 1])]) (N := (fun s w => B1 [s 0, s 1, s 2, s 3, s 4, s 5, s 15] w)) (N' := (fun s w => B1 [s 0, s 1, s 2, s 3, s 4, s 5, s 15] w)) (X := (fun i => (bif Nat.beq i 0 then (fun s w => s57_p1 K w) else (fun _ _ => False)))) (X' := (fun i => (bif Nat.beq i 0 then (s57_p1_den K) else (fun _ _ => False)))) (R := s57_R K) (s := s) (w := w) (p := s57_p2 K B1 (s 0) (s 1) (s 2) (s 3) (s 4) (s 5) (s 15) (s 39) w) (q := s57_p2_den K (fun s w => B1 [s 0, s 1, s 2, s 3, s 4, s 5, s 15] w) s w) tr_id (fun i => (tr_bif (fun s w h => s57_p1_ok K s w @h) tr_id)) (by kernel_rfl) (by kernel_rfl) @h
def s57_p3_d (K : Value → World → Prop) (B1 : List Value → World → Prop) (t0 t1 t2 t3 t4 t5 t15 : Value) (w0 w : World) : Prop :=
  nck t0 (fun t30 _ =>
  fd 3 t30 (fun t31 _ =>
  ld1 t31 (fun t32 _ =>
  nck t0 (fun t34 _ =>
  fd 0 t34 (fun t35 _ =>
  fd 0 t35 (fun t36 _ =>
  ld1 t36 (fun t37 _ =>
  boI .add t32 t37 (fun t38 _ =>
  boI .lss t15 t38 (fun t39 _ =>
  s57_p2 K B1 t0 t1 t2 t3 t4 t5 t15 t39 w) w0) w0) w0) w0) w0) w0) w0) w0) w0
def s57_p3 (K : Value → World → Prop) (B1 : List Value → World → Prop) (t0 t1 t2 t3 t4 t5 t15 : Value) (w : World) : Prop := s57_p3_d K B1 t0 t1 t2 t3 t4 t5 t15 (drw w) (drw w)
def s57_p3_den (K : Value → World → Prop) (M1 : (Nat → Value) → World → Prop) : (Nat → Value) → World → Prop := denL Try.prog [(cd (Try.f57.body.getD .skip) [1, 1, 0, 1, 0, 0, 0, 0])] (s57_p2_den K M1) (fun i => (bif Nat.beq i 0 then (s57_p1_den K) else (fun _ _ => False))) (s57_R K)
theorem s57_p3_ok (K : Value → World → Prop) (B1 : List Value → World → Prop) (s : Nat → Value) (w : World) (h : s57_p3 K B1 (s 0) (s 1) (s 2) (s 3) (s 4) (s 5) (s 15) w) : Tr (s57_p3_den K (fun s w => B1 [s 0, s 1, s 2, s 3, s 4, s 5, s 15] w) s w) :=
  tr_draw (P := Try.prog) (ops := (ro (cd (Try.f57.body.getD .skip) [1, 1, 0, 1, 0, 0, 0, 0]))) (ms := [0, 0, 2, 6, 14, 0, 32, 96, 224, 480, 1022, 2047]) (cs := [0, 1, 2, 3, 4, 5, 6, 7, 8, 9, 10, 11]) (N := (fun s w => s57_p2 K B1 (s 0) (s 1) (s 2) (s 3) (s 4) (s 5) (s 15) (s 39) w)) (N' := (s57_p2_den K (fun s w => B1 [s 0, s 1, s 2, s 3, s 4, s 5, s 15] w))) (s := s) (w := w) (p := s57_p3 K B1 (s 0) (s 1) (s 2) (s 3) (s 4) (s 5) (s 15) w) (q := s57_p3_den K (fun s w => B1 [s 0, s 1, s 2, s 3, s 4, s 5, s 15] w) s w) (by kernel_rfl) (by kernel_rfl) (fun s w h => s57_p2_ok K B1 s w @h) (by kernel_rfl) (by kernel_rfl) @h
def s57_p4_F (K : Value → World → Prop) (B1 : List Value → World → Prop) (l : List Value) (w : World) : Prop :=
  match l with
  | [t0, t1, t2, t3, t4, t5, t15] => s57_p3 K B1 t0 t1 t2 t3 t4 t5 t15 w
  | _ => False
theorem s57_p4_Fe {K : Value → World → Prop} {B1 : List Value → World → Prop} {t0 t1 t2 t3 t4 t5 t15 : Value} {w : World} : s57_p4_F K B1 [t0, t1, t2, t3, t4, t5, t15] w = s57_p3 K B1 t0 t1 t2 t3 t4 t5 t15 w := by kernel_rfl
def s57_p4 (K : Value → World → Prop) (t0 t1 t2 t3 t4 t5 t15 : Value) (w : World) : Prop :=
  LoopL (s57_p4_F K) [t0, t1, t2, t3, t4, t5, t15] w
def s57_p4_den (K : Value → World → Prop) : (Nat → Value) → World → Prop := fun s w => LoopP (fun M1 s w => s57_p3_den K M1 s w) s w
theorem s57_p4_ok (K : Value → World → Prop) (s : Nat → Value) (w : World) (h : s57_p4 K (s 0) (s 1) (s 2) (s 3) (s 4) (s 5) (s 15) w) : Tr (s57_p4_den K s w) :=
  tr_loop (G := fun N' s w => s57_p3_den K N' s w) (F := s57_p4_F K) (sel := fun s => [s 0, s 1, s 2, s 3, s 4, s 5, s 15]) (s := s) (w := w) (p := s57_p4 K (s 0) (s 1) (s 2) (s 3) (s 4) (s 5) (s 15) w) (q := s57_p4_den K s w) (fun B s w h => s57_p3_ok K B s w @h) (by kernel_rfl) (by kernel_rfl) @h
def s57_p5 (K : Value → World → Prop) (t0 t1 t2 t3 t4 t5 : Value) (w : World) : Prop :=
  cl Try.prog 74 #[t0, t1, t4, t5] (fun t20 w =>
  boI .neq t20 (.int .i64 0) (fun t22 w =>
  ifb t22
  (K (.tuple #[(.int .i64 0), t20]) w)
  (nck t0 (fun t25 w =>
  fd 3 t25 (fun t26 w =>
  ld1 t26 (fun t27 w =>
  s57_p4 K t0 t1 t2 t3 t4 t5 t27 w) w) w) w)) w) w
def s57_p5_den (K : Value → World → Prop) : (Nat → Value) → World → Prop := denL Try.prog [(cd (Try.f57.body.getD .skip) [0]), (cd (Try.f57.body.getD .skip) [1, 0, 0]), (cd (Try.f57.body.getD .skip) [1, 0, 1, 0]), (cd (Try.f57.body.getD .skip) [1, 0, 1, 1]), (cd (Try.f57.body.getD .skip) [1, 1, 0, 0])] (s57_p4_den K) (fun i => (fun _ _ => False)) (s57_R K)
theorem s57_p5_ok (K : Value → World → Prop) (s : Nat → Value) (w : World) (h : s57_p5 K (s 0) (s 1) (s 2) (s 3) (s 4) (s 5) w) : Tr (s57_p5_den K s w) :=
  tr_simple (P := Try.prog) (codes := [(cd (Try.f57.body.getD .skip) [0]), (cd (Try.f57.body.getD .skip) [1, 0, 0]), (cd (Try.f57.body.getD .skip) [1, 0, 1, 0]), (cd (Try.f57.body.getD .skip) [1, 0, 1, 1]), (cd (Try.f57.body.getD .skip) [1, 1, 0, 0])]) (N := (fun s w => s57_p4 K (s 0) (s 1) (s 2) (s 3) (s 4) (s 5) (s 15) w)) (N' := (s57_p4_den K)) (X := (fun i => (fun _ _ => False))) (X' := (fun i => (fun _ _ => False))) (R := s57_R K) (s := s) (w := w) (p := s57_p5 K (s 0) (s 1) (s 2) (s 3) (s 4) (s 5) w) (q := s57_p5_den K s w) (fun s w h => s57_p4_ok K s w @h) (fun i => tr_id) (by kernel_rfl) (by kernel_rfl) @h
/-- the call, from the text -/
theorem c57 (t0 t1 t2 t3 t4 t5 : Value) {K : Value → World → Prop} {w : World} (h : s57_p5 K t0 t1 t2 t3 t4 t5 w) : cl Try.prog 57 #[t0, t1, t2, t3, t4, t5] K w :=
  calls_of_tr (c := (Try.f57.body.getD .skip)) (fn := Try.f57) (q := s57_p5_den K (st0 #[t0, t1, t2, t3, t4, t5]) w) Try.func57 (by kernel_rfl) (by kernel_rfl) (Nat.le_of_ble_eq_true (by kernel_rfl)) (by kernel_rfl) (by kernel_rfl) (s57_p5_ok K (st0 #[t0, t1, t2, t3, t4, t5]) w @h)

/-! ### function 58 : (*e2e.slotsm.Tables).Occupancy -/
def s58_R (K : Value → World → Prop) (s : Nat → Value) (w : World) : Prop := retv Try.prog s Try.f58.results.toList (fun vs => K (pack vs) w) w
def s58_p1 (K : Value → World → Prop) (t0 t1 t2 : Value) (w : World) : Prop :=
  cl Try.prog 74 #[t0, t1, (.int .i64 0), (.int .i64 1)] (fun t11 w =>
  boI .neq t11 (.int .i64 0) (fun t13 w =>
  ifb t13
  (K (.tuple #[(.int .i64 0), t11]) w)
  (cl Try.prog 60 #[t0, t1, t2] (fun t18 w =>
  un .not t18 (fun t19 w =>
  ifb t19
  (K (.tuple #[(.int .i64 0), (.int .i64 4)]) w)
  (cl Try.prog 24 #[t0, t1, t2] (fun t23 w =>
  K (.tuple #[t23, (.int .i64 0)]) w) w)) w) w)) w) w
def s58_p1_den (K : Value → World → Prop) : (Nat → Value) → World → Prop := denL Try.prog [(cd (Try.f58.body.getD .skip) [0]), (cd (Try.f58.body.getD .skip) [1, 0, 0]), (cd (Try.f58.body.getD .skip) [1, 0, 1, 0]), (cd (Try.f58.body.getD .skip) [1, 0, 1, 1]), (cd (Try.f58.body.getD .skip) [1, 1, 0, 0]), (cd (Try.f58.body.getD .skip) [1, 1, 0, 1]), (cd (Try.f58.body.getD .skip) [1, 1, 1, 0]), (cd (Try.f58.body.getD .skip) [1, 1, 1, 1])] (fun _ _ => False) (fun i => (fun _ _ => False)) (s58_R K)
theorem s58_p1_ok (K : Value → World → Prop) (s : Nat → Value) (w : World) (h : s58_p1 K (s 0) (s 1) (s 2) w) : Tr (s58_p1_den K s w) :=
  tr_simple (P := Try.prog) (codes := [(cd (Try.f58.body.getD .skip) [0]), (cd (Try.f58.body.getD .skip) [1, 0, 0]), (cd (Try.f58.body.getD .skip) [1, 0, 1, 0]), (cd (Try.f58.body.getD .skip) [1, 0, 1, 1]), (cd (Try.f58.body.getD .skip) [1, 1, 0, 0]), (cd (Try.f58.body.getD .skip) [1, 1, 0, 1]), (cd (Try.f58.body.getD .skip) [1, 1, 1, 0]), (cd (Try.f58.body.getD .skip) [1, 1, 1, 1])]) (N := (fun _ _ => False)) (N' := (fun _ _ => False)) (X := (fun i => (fun _ _ => False))) (X' := (fun i => (fun _ _ => False))) (R := s58_R K) (s := s) (w := w) (p := s58_p1 K (s 0) (s 1) (s 2) w) (q := s58_p1_den K s w) tr_id (fun i => tr_id) (by kernel_rfl) (by kernel_rfl) @h
/-- the call, from the text -/
theorem c58 (t0 t1 t2 : Value) {K : Value → World → Prop} {w : World} (h : s58_p1 K t0 t1 t2 w) : cl Try.prog 58 #[t0, t1, t2] K w :=
  calls_of_tr (c := (Try.f58.body.getD .skip)) (fn := Try.f58) (q := s58_p1_den K (st0 #[t0, t1, t2]) w) Try.func58 (by kernel_rfl) (by kernel_rfl) (Nat.le_of_ble_eq_true (by kernel_rfl)) (by kernel_rfl) (by kernel_rfl) (s58_p1_ok K (st0 #[t0, t1, t2]) w @h)

/-! ### function 59 : (*e2e.slotsm.Tables).Admitted -/
def s59_R (K : Value → World → Prop) (s : Nat → Value) (w : World) : Prop := retv Try.prog s Try.f59.results.toList (fun vs => K (pack vs) w) w
def s59_p1 (K : Value → World → Prop) (t0 t1 t2 t3 : Value) (w : World) : Prop :=
  cl Try.prog 74 #[t0, t1, t3, (.int .i64 1)] (fun t14 w =>
  boI .neq t14 (.int .i64 0) (fun t16 w =>
  ifb t16
  (K (.tuple #[(.int .i64 0), t14]) w)
  (cl Try.prog 60 #[t0, t1, t2] (fun t21 w =>
  un .not t21 (fun t22 w =>
  ifb t22
  (K (.tuple #[(.int .i64 0), (.int .i64 4)]) w)
  (cl Try.prog 61 #[t0, t1, t2, t3] (fun t27 w =>
  K (.tuple #[t27, (.int .i64 0)]) w) w)) w) w)) w) w
def s59_p1_den (K : Value → World → Prop) : (Nat → Value) → World → Prop := denL Try.prog [(cd (Try.f59.body.getD .skip) [0]), (cd (Try.f59.body.getD .skip) [1, 0, 0]), (cd (Try.f59.body.getD .skip) [1, 0, 1, 0]), (cd (Try.f59.body.getD .skip) [1, 0, 1, 1]), (cd (Try.f59.body.getD .skip) [1, 1, 0, 0]), (cd (Try.f59.body.getD .skip) [1, 1, 0, 1]), (cd (Try.f59.body.getD .skip) [1, 1, 1, 0]), (cd (Try.f59.body.getD .skip) [1, 1, 1, 1])] (fun _ _ => False) (fun i => (fun _ _ => False)) (s59_R K)
theorem s59_p1_ok (K : Value → World → Prop) (s : Nat → Value) (w : World) (h : s59_p1 K (s 0) (s 1) (s 2) (s 3) w) : Tr (s59_p1_den K s w) :=
  tr_simple (P := Try.prog) (codes := [(cd (Try.f59.body.getD .skip) [0]), (cd (Try.f59.body.getD .skip) [1, 0, 0]), (cd (Try.f59.body.getD .skip) [1, 0, 1, 0]), (cd (Try.f59.body.getD .skip) [1, 0, 1, 1]), (cd (Try.f59.body.getD .skip) [1, 1, 0, 0]), (cd (Try.f59.body.getD .skip) [1, 1, 0, 1]), (cd (Try.f59.body.getD .skip) [1, 1, 1, 0]), (cd (Try.f59.body.getD .skip) [1, 1, 1, 1])]) (N := (fun _ _ => False)) (N' := (fun _ _ => False)) (X := (fun i => (fun _ _ => False))) (X' := (fun i => (fun _ _ => False))) (R := s59_R K) (s := s) (w := w) (p := s59_p1 K (s 0) (s 1) (s 2) (s 3) w) (q := s59_p1_den K s w) tr_id (fun i => tr_id) (by kernel_rfl) (by kernel_rfl) @h
/-- the call, from the text -/
theorem c59 (t0 t1 t2 t3 : Value) {K : Value → World → Prop} {w : World} (h : s59_p1 K t0 t1 t2 t3 w) : cl Try.prog 59 #[t0, t1, t2, t3] K w :=
  calls_of_tr (c := (Try.f59.body.getD .skip)) (fn := Try.f59) (q := s59_p1_den K (st0 #[t0, t1, t2, t3]) w) Try.func59 (by kernel_rfl) (by kernel_rfl) (Nat.le_of_ble_eq_true (by kernel_rfl)) (by kernel_rfl) (by kernel_rfl) (s59_p1_ok K (st0 #[t0, t1, t2, t3]) w @h)

/-! ### function 60 : (*e2e.slotsm.Tables).Seen -/
def s60_R (K : Value → World → Prop) (s : Nat → Value) (w : World) : Prop := retv Try.prog s Try.f60.results.toList (fun vs => K (pack vs) w) w
def s60_p1 (K : Value → World → Prop) (t6 : Value) (w : World) : Prop :=
  K t6 w
def s60_p1_den (K : Value → World → Prop) : (Nat → Value) → World → Prop := denL Try.prog [(cd (Try.f60.body.getD .skip) [1, 1])] (fun _ _ => False) (fun i => (fun _ _ => False)) (s60_R K)
theorem s60_p1_ok (K : Value → World → Prop) (s : Nat → Value) (w : World) (h : s60_p1 K (s 6) w) : Tr (s60_p1_den K s w) :=
  tr_simple (P := Try.prog) (codes := [(cd (Try.f60.body.getD .skip) [1, 1])]) (N := (fun _ _ => False)) (N' := (fun _ _ => False)) (X := (fun i => (fun _ _ => False))) (X' := (fun i => (fun _ _ => False))) (R := s60_R K) (s := s) (w := w) (p := s60_p1 K (s 6) w) (q := s60_p1_den K s w) tr_id (fun i => tr_id) (by kernel_rfl) (by kernel_rfl) @h
def s60_p2_d (K : Value → World → Prop) (t0 t1 t2 : Value) (w0 w : World) : Prop :=
  nck t0 (fun t8 _ =>
  fd 3 t8 (fun t9 _ =>
  ld1 t9 (fun t10 _ =>
  nck t0 (fun t12 _ =>
  fd 0 t12 (fun t13 _ =>
  fd 2 t13 (fun t14 _ =>
  ld1 t14 (fun t15 _ =>
  ixs 5 t15 t1 (fun t17 _ =>
  fd 1 t17 (fun t18 _ =>
  ld1 t18 (fun t19 _ =>
  boI .sub t10 t19 (fun t20 _ =>
  boI .lss t20 t2 (fun t22 _ =>
  gd t22 true (fun K w => K t2 w) (fun t24 _ =>
  gd t22 true (fun K w => K t0 w) (fun t25 _ =>
  gd t22 true (nck t25) (fun t26 _ =>
  gd t22 true (fd 3 t26) (fun t27 _ =>
  gd t22 true (ld1 t27) (fun t28 _ =>
  gd t22 true (fun K w => K t0 w) (fun t29 _ =>
  gd t22 true (nck t29) (fun t30 _ =>
  gd t22 true (fd 0 t30) (fun t31 _ =>
  gd t22 true (fd 0 t31) (fun t32 _ =>
  gd t22 true (ld1 t32) (fun t33 _ =>
  gd t22 true (boI .add t28 t33) (fun t34 _ =>
  gd t22 true (fun K w => K t0 w) (fun t35 _ =>
  gd t22 true (nck t35) (fun t36 _ =>
  gd t22 true (fd 0 t36) (fun t37 _ =>
  gd t22 true (fd 2 t37) (fun t38 _ =>
  gd t22 true (ld1 t38) (fun t39 _ =>
  gd t22 true (fun K w => K t1 w) (fun t40 _ =>
  gd t22 true (ixs 5 t39 t40) (fun t41 _ =>
  gd t22 true (fd 1 t41) (fun t42 _ =>
  gd t22 true (ld1 t42) (fun t43 _ =>
  gd t22 true (boI .add t34 t43) (fun t44 _ =>
  gd t22 true (boI .sub t44 (.int .i64 1)) (fun t45 _ =>
  gd t22 true (boI .lss t24 t45) (fun t46 _ =>
  pk t22 t46 (.bool false) (fun t47 _ =>
  s60_p1 K t47 w) w0) w0) w0) w0) w0) w0) w0) w0) w0) w0) w0) w0) w0) w0) w0) w0) w0) w0) w0) w0) w0) w0) w0) w0) w0) w0) w0) w0) w0) w0) w0) w0) w0) w0) w0) w0
def s60_p2 (K : Value → World → Prop) (t0 t1 t2 : Value) (w : World) : Prop := s60_p2_d K t0 t1 t2 (drw w) (drw w)
def s60_p2_den (K : Value → World → Prop) : (Nat → Value) → World → Prop := denL Try.prog [(cd (Try.f60.body.getD .skip) [1, 0])] (s60_p1_den K) (fun i => (fun _ _ => False)) (s60_R K)
theorem s60_p2_ok (K : Value → World → Prop) (s : Nat → Value) (w : World) (h : s60_p2 K (s 0) (s 1) (s 2) w) : Tr (s60_p2_den K s w) :=
  tr_draw (P := Try.prog) (ops := (ro (cd (Try.f60.body.getD .skip) [1, 0]))) (ms := [0, 1, 3, 7, 0, 16, 48, 112, 240, 0, 1008, 2032, 4080, 8191, 0, 32767, 65535, 131071, 131071, 393215, 917503, 1966079, 131071, 4325375, 12713983, 29491199, 63045631, 134086655, 131071, 268566527, 805437439, 1879179263, 4026662911, 131071, 16911564799, 34091433983, 68451172351, 137438822399, 274877775871, 549755813887, 1099511627775, 2199023255551]) (cs := [0, 1, 2, 3, 4, 5, 6, 7, 8, 9, 10, 11, 12, 13, 14, 15, 16, 17, 18, 19, 20, 21, 22, 23, 24, 25, 26, 27, 28, 29, 30, 31, 32, 33, 34, 35, 36, 37, 38, 39, 40, 41]) (N := (fun s w => s60_p1 K (s 6) w)) (N' := (s60_p1_den K)) (s := s) (w := w) (p := s60_p2 K (s 0) (s 1) (s 2) w) (q := s60_p2_den K s w) (by kernel_rfl) (by kernel_rfl) (fun s w h => s60_p1_ok K s w @h) (by kernel_rfl) (by kernel_rfl) @h
def s60_p3 (K : Value → World → Prop) (t0 t1 t2 : Value) (w : World) : Prop :=
  s60_p2 K t0 t1 t2 w
def s60_p3_den (K : Value → World → Prop) : (Nat → Value) → World → Prop := denL Try.prog [(cd (Try.f60.body.getD .skip) [0])] (s60_p2_den K) (fun i => (fun _ _ => False)) (s60_R K)
theorem s60_p3_ok (K : Value → World → Prop) (s : Nat → Value) (w : World) (h : s60_p3 K (s 0) (s 1) (s 2) w) : Tr (s60_p3_den K s w) :=
  tr_simple (P := Try.prog) (codes := [(cd (Try.f60.body.getD .skip) [0])]) (N := (fun s w => s60_p2 K (s 0) (s 1) (s 2) w)) (N' := (s60_p2_den K)) (X := (fun i => (fun _ _ => False))) (X' := (fun i => (fun _ _ => False))) (R := s60_R K) (s := s) (w := w) (p := s60_p3 K (s 0) (s 1) (s 2) w) (q := s60_p3_den K s w) (fun s w h => s60_p2_ok K s w @h) (fun i => tr_id) (by kernel_rfl) (by kernel_rfl) @h
/-- the call, from the text -/
theorem c60 (t0 t1 t2 : Value) {K : Value → World → Prop} {w : World} (h : s60_p3 K t0 t1 t2 w) : cl Try.prog 60 #[t0, t1, t2] K w :=
  calls_of_tr (c := (Try.f60.body.getD .skip)) (fn := Try.f60) (q := s60_p3_den K (st0 #[t0, t1, t2]) w) Try.func60 (by kernel_rfl) (by kernel_rfl) (Nat.le_of_ble_eq_true (by kernel_rfl)) (by kernel_rfl) (by kernel_rfl) (s60_p3_ok K (st0 #[t0, t1, t2]) w @h)

/-! ### function 61 : (*e2e.slotsm.Tables).Entered -/
def s61_R (K : Value → World → Prop) (s : Nat → Value) (w : World) : Prop := retv Try.prog s Try.f61.results.toList (fun vs => K (pack vs) w) w
def s61_p1 (K : Value → World → Prop) (t9 : Value) (w : World) : Prop :=
  K t9 w
def s61_p1_den (K : Value → World → Prop) : (Nat → Value) → World → Prop := denL Try.prog [(cd (Try.f61.body.getD .skip) [1, 1, 1, 0]), (cd (Try.f61.body.getD .skip) [1, 1, 1, 1])] (fun _ _ => False) (fun i => (fun _ _ => False)) (s61_R K)
theorem s61_p1_ok (K : Value → World → Prop) (s : Nat → Value) (w : World) (h : s61_p1 K (s 9) w) : Tr (s61_p1_den K s w) :=
  tr_simple (P := Try.prog) (codes := [(cd (Try.f61.body.getD .skip) [1, 1, 1, 0]), (cd (Try.f61.body.getD .skip) [1, 1, 1, 1])]) (N := (fun _ _ => False)) (N' := (fun _ _ => False)) (X := (fun i => (fun _ _ => False))) (X' := (fun i => (fun _ _ => False))) (R := s61_R K) (s := s) (w := w) (p := s61_p1 K (s 9) w) (q := s61_p1_den K s w) tr_id (fun i => tr_id) (by kernel_rfl) (by kernel_rfl) @h
def s61_p2 (K : Value → World → Prop) (B1 : List Value → World → Prop) (t1 t2 t3 t9 t15 t16 t17 : Value) (w : World) : Prop :=
  boI .add t17 (.int .i64 1) (fun t41 w =>
  B1 [t1, t2, t3, t9, t15, t16, t41] w) w
def s61_p2_den (K : Value → World → Prop) (M1 : (Nat → Value) → World → Prop) : (Nat → Value) → World → Prop := denL Try.prog [(cd (Try.f61.body.getD .skip) [1, 1, 0, 1, 0, 0, 1, 1, 1])] M1 (fun i => (bif Nat.beq i 0 then (s61_p1_den K) else (fun _ _ => False))) (s61_R K)
theorem s61_p2_ok (K : Value → World → Prop) (B1 : List Value → World → Prop) (s : Nat → Value) (w : World) (h : s61_p2 K B1 (s 1) (s 2) (s 3) (s 9) (s 15) (s 16) (s 17) w) : Tr (s61_p2_den K (fun s w => B1 [s 1, s 2, s 3, s 9, s 15, s 16, s 17] w) s w) :=
  tr_simple (P := Try.prog) (codes := [(cd (Try.f61.body.getD .skip) [1, 1, 0, 1, 0, 0, 1, 1, 1])]) (N := (fun s w => B1 [s 1, s 2, s 3, s 9, s 15, s 16, s 17] w)) (N' := (fun s w => B1 [s 1, s 2, s 3, s 9, s 15, s 16, s 17] w)) (X := (fun i => (bif Nat.beq i 0 then (fun s w => s61_p1 K (s 9) w) else (fun _ _ => False)))) (X' := (fun i => (bif Nat.beq i 0 then (s61_p1_den K) else (fun _ _ => False)))) (R := s61_R K) (s := s) (w := w) (p := s61_p2 K B1 (s 1) (s 2) (s 3) (s 9) (s 15) (s 16) (s 17) w) (q := s61_p2_den K (fun s w => B1 [s 1, s 2, s 3, s 9, s 15, s 16, s 17] w) s w) tr_id (fun i => (tr_bif (fun s w h => s61_p1_ok K s w @h) tr_id)) (by kernel_rfl) (by kernel_rfl) @h
def s61_p3 (K : Value → World → Prop) (B1 : List Value → World → Prop) (t1 t2 t3 t9 t15 t16 t17 : Value) (w : World) : Prop :=
  boI .lss t17 t16 (fun t18 w =>
  ifb t18
  (ixs 4 t15 t17 (fun t19 w =>
  ldn 4 t19 (fun t20 w =>
  nw 105 #[(.int .i64 0), (.int .i64 0), (.int .i64 0), (.int .i64 0)] (fun t11 w =>
  stn 4 t11 t20 (fun w =>
  fd 0 t11 (fun t21 w =>
  ld1 t21 (fun t22 w =>
  boI .eql t22 t1 (fun t24 w =>
  gd t24 true (fd 1 t11) (fun t26 w =>
  gd t24 true (ld1 t26) (fun t27 w =>
  gd t24 true (fun K w => K t2 w) (fun t28 w =>
  gd t24 true (boI .eql t27 t28) (fun t29 w =>
  pk t24 t29 (.bool false) (fun t30 w =>
  gd t30 true (fd 2 t11) (fun t32 w =>
  gd t30 true (ld1 t32) (fun t33 w =>
  gd t30 true (fun K w => K t3 w) (fun t34 w =>
  gd t30 true (boI .eql t33 t34) (fun t35 w =>
  pk t30 t35 (.bool false) (fun t36 w =>
  ifb t36
  (fd 3 t11 (fun t38 w =>
  ld1 t38 (fun t39 w =>
  boI .add t9 t39 (fun t40 w =>
  s61_p2 K B1 t1 t2 t3 t40 t15 t16 t17 w) w) w) w)
  (s61_p2 K B1 t1 t2 t3 t9 t15 t16 t17 w)) w) w) w) w) w) w) w) w) w) w) w) w) w) w) w) w) w)
  (s61_p1 K t9 w)) w
def s61_p3_den (K : Value → World → Prop) (M1 : (Nat → Value) → World → Prop) : (Nat → Value) → World → Prop := denL Try.prog [(cd (Try.f61.body.getD .skip) [1, 1, 0, 1, 0, 0, 0]), (cd (Try.f61.body.getD .skip) [1, 1, 0, 1, 0, 0, 1, 0]), (cd (Try.f61.body.getD .skip) [1, 1, 0, 1, 0, 0, 1, 1, 0])] (s61_p2_den K M1) (fun i => (bif Nat.beq i 0 then (s61_p1_den K) else (fun _ _ => False))) (s61_R K)
theorem s61_p3_ok (K : Value → World → Prop) (B1 : List Value → World → Prop) (s : Nat → Value) (w : World) (h : s61_p3 K B1 (s 1) (s 2) (s 3) (s 9) (s 15) (s 16) (s 17) w) : Tr (s61_p3_den K (fun s w => B1 [s 1, s 2, s 3, s 9, s 15, s 16, s 17] w) s w) :=
  tr_simple (P := Try.prog) (codes := [(cd (Try.f61.body.getD .skip) [1, 1, 0, 1, 0, 0, 0]), (cd (Try.f61.body.getD .skip) [1, 1, 0, 1, 0, 0, 1, 0]), (cd (Try.f61.body.getD .skip) [1, 1, 0, 1, 0, 0, 1, 1, 0])]) (N := (fun s w => s61_p2 K B1 (s 1) (s 2) (s 3) (s 9) (s 15) (s 16) (s 17) w)) (N' := (s61_p2_den K (fun s w => B1 [s 1, s 2, s 3, s 9, s 15, s 16, s 17] w))) (X := (fun i => (bif Nat.beq i 0 then (fun s w => s61_p1 K (s 9) w) else (fun _ _ => False)))) (X' := (fun i => (bif Nat.beq i 0 then (s61_p1_den K) else (fun _ _ => False)))) (R := s61_R K) (s := s) (w := w) (p := s61_p3 K B1 (s 1) (s 2) (s 3) (s 9) (s 15) (s 16) (s 17) w) (q := s61_p3_den K (fun s w => B1 [s 1, s 2, s 3, s 9, s 15, s 16, s 17] w) s w) (fun s w h => s61_p2_ok K B1 s w @h) (fun i => (tr_bif (fun s w h => s61_p1_ok K s w @h) tr_id)) (by kernel_rfl) (by kernel_rfl) @h
def s61_p4_F (K : Value → World → Prop) (B1 : List Value → World → Prop) (l : List Value) (w : World) : Prop :=
  match l with
  | [t1, t2, t3, t9, t15, t16, t17] => s61_p3 K B1 t1 t2 t3 t9 t15 t16 t17 w
  | _ => False
theorem s61_p4_Fe {K : Value → World → Prop} {B1 : List Value → World → Prop} {t1 t2 t3 t9 t15 t16 t17 : Value} {w : World} : s61_p4_F K B1 [t1, t2, t3, t9, t15, t16, t17] w = s61_p3 K B1 t1 t2 t3 t9 t15 t16 t17 w := by kernel_rfl
def s61_p4 (K : Value → World → Prop) (t1 t2 t3 t9 t15 t16 t17 : Value) (w : World) : Prop :=
  LoopL (s61_p4_F K) [t1, t2, t3, t9, t15, t16, t17] w
def s61_p4_den (K : Value → World → Prop) : (Nat → Value) → World → Prop := fun s w => LoopP (fun M1 s w => s61_p3_den K M1 s w) s w
theorem s61_p4_ok (K : Value → World → Prop) (s : Nat → Value) (w : World) (h : s61_p4 K (s 1) (s 2) (s 3) (s 9) (s 15) (s 16) (s 17) w) : Tr (s61_p4_den K s w) :=
  tr_loop (G := fun N' s w => s61_p3_den K N' s w) (F := s61_p4_F K) (sel := fun s => [s 1, s 2, s 3, s 9, s 15, s 16, s 17]) (s := s) (w := w) (p := s61_p4 K (s 1) (s 2) (s 3) (s 9) (s 15) (s 16) (s 17) w) (q := s61_p4_den K s w) (fun B s w h => s61_p3_ok K B s w @h) (by kernel_rfl) (by kernel_rfl) @h
def s61_p5 (K : Value → World → Prop) (t0 t1 t2 t3 : Value) (w : World) : Prop :=
  nck t0 (fun t13 w =>
  fd 4 t13 (fun t14 w =>
  ld1 t14 (fun t15 w =>
  lnS t15 (fun t16 w =>
  s61_p4 K t1 t2 t3 (.int .i64 0) t15 t16 (.int .i64 0) w) w) w) w) w
def s61_p5_den (K : Value → World → Prop) : (Nat → Value) → World → Prop := denL Try.prog [(cd (Try.f61.body.getD .skip) [0]), (cd (Try.f61.body.getD .skip) [1, 0]), (cd (Try.f61.body.getD .skip) [1, 1, 0, 0])] (s61_p4_den K) (fun i => (fun _ _ => False)) (s61_R K)
theorem s61_p5_ok (K : Value → World → Prop) (s : Nat → Value) (w : World) (h : s61_p5 K (s 0) (s 1) (s 2) (s 3) w) : Tr (s61_p5_den K s w) :=
  tr_simple (P := Try.prog) (codes := [(cd (Try.f61.body.getD .skip) [0]), (cd (Try.f61.body.getD .skip) [1, 0]), (cd (Try.f61.body.getD .skip) [1, 1, 0, 0])]) (N := (fun s w => s61_p4 K (s 1) (s 2) (s 3) (s 9) (s 15) (s 16) (s 17) w)) (N' := (s61_p4_den K)) (X := (fun i => (fun _ _ => False))) (X' := (fun i => (fun _ _ => False))) (R := s61_R K) (s := s) (w := w) (p := s61_p5 K (s 0) (s 1) (s 2) (s 3) w) (q := s61_p5_den K s w) (fun s w h => s61_p4_ok K s w @h) (fun i => tr_id) (by kernel_rfl) (by kernel_rfl) @h
/-- the call, from the text -/
theorem c61 (t0 t1 t2 t3 : Value) {K : Value → World → Prop} {w : World} (h : s61_p5 K t0 t1 t2 t3 w) : cl Try.prog 61 #[t0, t1, t2, t3] K w :=
  calls_of_tr (c := (Try.f61.body.getD .skip)) (fn := Try.f61) (q := s61_p5_den K (st0 #[t0, t1, t2, t3]) w) Try.func61 (by kernel_rfl) (by kernel_rfl) (Nat.le_of_ble_eq_true (by kernel_rfl)) (by kernel_rfl) (by kernel_rfl) (s61_p5_ok K (st0 #[t0, t1, t2, t3]) w @h)

/-! ### function 62 : (*e2e.slots.Tables).check -/
def s62_R (K : Value → World → Prop) (s : Nat → Value) (w : World) : Prop := retv Try.prog s Try.f62.results.toList (fun vs => K (pack vs) w) w
def s62_p1 (K : Value → World → Prop) (t2 t14 t15 t16 : Value) (w : World) : Prop :=
  boI .lss t2 t15 (fun t74 w =>
  gd t74 false (fun K w => K t2 w) (fun t76 w =>
  gd t74 false (fun K w => K t16 w) (fun t77 w =>
  gd t74 false (boI .gtr t76 t77) (fun t78 w =>
  pk t74 (.bool true) t78 (fun t79 w =>
  ifb t79
  (K (.tuple #[(.pointer none), (.int .i64 4)]) w)
  (K (.tuple #[t14, (.int .i64 0)]) w)) w) w) w) w) w
def s62_p1_den (K : Value → World → Prop) : (Nat → Value) → World → Prop := denL Try.prog [(cd (Try.f62.body.getD .skip) [1, 1, 1, 1, 1, 1, 1, 1, 0, 0]), (cd (Try.f62.body.getD .skip) [1, 1, 1, 1, 1, 1, 1, 1, 0, 1]), (cd (Try.f62.body.getD .skip) [1, 1, 1, 1, 1, 1, 1, 1, 1, 0]), (cd (Try.f62.body.getD .skip) [1, 1, 1, 1, 1, 1, 1, 1, 1, 1])] (fun _ _ => False) (fun i => (fun _ _ => False)) (s62_R K)
theorem s62_p1_ok (K : Value → World → Prop) (s : Nat → Value) (w : World) (h : s62_p1 K (s 2) (s 14) (s 15) (s 16) w) : Tr (s62_p1_den K s w) :=
  tr_simple (P := Try.prog) (codes := [(cd (Try.f62.body.getD .skip) [1, 1, 1, 1, 1, 1, 1, 1, 0, 0]), (cd (Try.f62.body.getD .skip) [1, 1, 1, 1, 1, 1, 1, 1, 0, 1]), (cd (Try.f62.body.getD .skip) [1, 1, 1, 1, 1, 1, 1, 1, 1, 0]), (cd (Try.f62.body.getD .skip) [1, 1, 1, 1, 1, 1, 1, 1, 1, 1])]) (N := (fun _ _ => False)) (N' := (fun _ _ => False)) (X := (fun i => (fun _ _ => False))) (X' := (fun i => (fun _ _ => False))) (R := s62_R K) (s := s) (w := w) (p := s62_p1 K (s 2) (s 14) (s 15) (s 16) w) (q := s62_p1_den K s w) tr_id (fun i => tr_id) (by kernel_rfl) (by kernel_rfl) @h
def s62_p2 (K : Value → World → Prop) (t2 t5 t14 t15 t16 : Value) (w : World) : Prop :=
  boI .eql t5 (.int .i64 2) (fun t65 w =>
  ifb t65
  (nck t14 (fun t68 w =>
  fd 5 t68 (fun t69 w =>
  ld1 t69 (fun t70 w =>
  boI .add t16 t70 (fun t71 w =>
  s62_p1 K t2 t14 t15 t71 w) w) w) w) w)
  (s62_p1 K t2 t14 t15 t16 w)) w
def s62_p2_den (K : Value → World → Prop) : (Nat → Value) → World → Prop := denL Try.prog [(cd (Try.f62.body.getD .skip) [1, 1, 1, 1, 1, 1, 1, 0, 0]), (cd (Try.f62.body.getD .skip) [1, 1, 1, 1, 1, 1, 1, 0, 1])] (s62_p1_den K) (fun i => (fun _ _ => False)) (s62_R K)
theorem s62_p2_ok (K : Value → World → Prop) (s : Nat → Value) (w : World) (h : s62_p2 K (s 2) (s 5) (s 14) (s 15) (s 16) w) : Tr (s62_p2_den K s w) :=
  tr_simple (P := Try.prog) (codes := [(cd (Try.f62.body.getD .skip) [1, 1, 1, 1, 1, 1, 1, 0, 0]), (cd (Try.f62.body.getD .skip) [1, 1, 1, 1, 1, 1, 1, 0, 1])]) (N := (fun s w => s62_p1 K (s 2) (s 14) (s 15) (s 16) w)) (N' := (s62_p1_den K)) (X := (fun i => (fun _ _ => False))) (X' := (fun i => (fun _ _ => False))) (R := s62_R K) (s := s) (w := w) (p := s62_p2 K (s 2) (s 5) (s 14) (s 15) (s 16) w) (q := s62_p2_den K s w) (fun s w h => s62_p1_ok K s w @h) (fun i => tr_id) (by kernel_rfl) (by kernel_rfl) @h
def s62_p3 (K : Value → World → Prop) (t2 t5 t14 t15 t16 : Value) (w : World) : Prop :=
  boI .neq t5 (.int .i64 0) (fun t57 w =>
  ifb t57
  (nck t14 (fun t60 w =>
  fd 5 t60 (fun t61 w =>
  ld1 t61 (fun t62 w =>
  boI .sub t15 t62 (fun t63 w =>
  s62_p2 K t2 t5 t14 t63 t16 w) w) w) w) w)
  (s62_p2 K t2 t5 t14 t15 t16 w)) w
def s62_p3_den (K : Value → World → Prop) : (Nat → Value) → World → Prop := denL Try.prog [(cd (Try.f62.body.getD .skip) [1, 1, 1, 1, 1, 1, 0, 0]), (cd (Try.f62.body.getD .skip) [1, 1, 1, 1, 1, 1, 0, 1])] (s62_p2_den K) (fun i => (fun _ _ => False)) (s62_R K)
theorem s62_p3_ok (K : Value → World → Prop) (s : Nat → Value) (w : World) (h : s62_p3 K (s 2) (s 5) (s 14) (s 15) (s 16) w) : Tr (s62_p3_den K s w) :=
  tr_simple (P := Try.prog) (codes := [(cd (Try.f62.body.getD .skip) [1, 1, 1, 1, 1, 1, 0, 0]), (cd (Try.f62.body.getD .skip) [1, 1, 1, 1, 1, 1, 0, 1])]) (N := (fun s w => s62_p2 K (s 2) (s 5) (s 14) (s 15) (s 16) w)) (N' := (s62_p2_den K)) (X := (fun i => (fun _ _ => False))) (X' := (fun i => (fun _ _ => False))) (R := s62_R K) (s := s) (w := w) (p := s62_p3 K (s 2) (s 5) (s 14) (s 15) (s 16) w) (q := s62_p3_den K s w) (fun s w h => s62_p2_ok K s w @h) (fun i => tr_id) (by kernel_rfl) (by kernel_rfl) @h
def s62_p4_d (K : Value → World → Prop) (t0 t2 t5 t14 : Value) (w0 w : World) : Prop :=
  nck t0 (fun t43 _ =>
  fd 2 t43 (fun t44 _ =>
  ld1 t44 (fun t45 _ =>
  nck t0 (fun t47 _ =>
  fd 2 t47 (fun t48 _ =>
  ld1 t48 (fun t49 _ =>
  nck t0 (fun t51 _ =>
  fd 0 t51 (fun t52 _ =>
  ld1 t52 (fun t53 _ =>
  boI .add t49 t53 (fun t54 _ =>
  boI .sub t54 (.int .i64 1) (fun t55 _ =>
  s62_p3 K t2 t5 t14 t45 t55 w) w0) w0) w0) w0) w0) w0) w0) w0) w0) w0) w0
def s62_p4 (K : Value → World → Prop) (t0 t2 t5 t14 : Value) (w : World) : Prop := s62_p4_d K t0 t2 t5 t14 (drw w) (drw w)
def s62_p4_den (K : Value → World → Prop) : (Nat → Value) → World → Prop := denL Try.prog [(cd (Try.f62.body.getD .skip) [1, 1, 1, 1, 1, 0])] (s62_p3_den K) (fun i => (fun _ _ => False)) (s62_R K)
theorem s62_p4_ok (K : Value → World → Prop) (s : Nat → Value) (w : World) (h : s62_p4 K (s 0) (s 2) (s 5) (s 14) w) : Tr (s62_p4_den K s w) :=
  tr_draw (P := Try.prog) (ops := (ro (cd (Try.f62.body.getD .skip) [1, 1, 1, 1, 1, 0]))) (ms := [0, 1, 3, 7, 0, 16, 48, 112, 0, 256, 768, 1792, 4080, 8176, 15, 32767]) (cs := [0, 1, 2, 3, 4, 5, 6, 7, 8, 9, 10, 11, 12, 13, 14, 15]) (N := (fun s w => s62_p3 K (s 2) (s 5) (s 14) (s 15) (s 16) w)) (N' := (s62_p3_den K)) (s := s) (w := w) (p := s62_p4 K (s 0) (s 2) (s 5) (s 14) w) (q := s62_p4_den K s w) (by kernel_rfl) (by kernel_rfl) (fun s w h => s62_p3_ok K s w @h) (by kernel_rfl) (by kernel_rfl) @h
def s62_p5 (K : Value → World → Prop) (t0 t1 t2 t3 t4 t5 : Value) (w : World) : Prop :=
  boI .lss t1 (.int .i64 0) (fun t18 w =>
  gd t18 false (fun K w => K t1 w) (fun t20 w =>
  gd t18 false (fun K w => K t0 w) (fun t21 w =>
  gd t18 false (nck t21) (fun t22 w =>
  gd t18 false (fd 3 t22) (fun t23 w =>
  gd t18 false (ld1 t23) (fun t24 w =>
  gd t18 false (lnS t24) (fun t25 w =>
  gd t18 false (boI .geq t20 t25) (fun t26 w =>
  pk t18 (.bool true) t26 (fun t27 w =>
  ifb t27
  (K (.tuple #[(.pointer none), (.int .i64 1)]) w)
  (boI .lss t3 (.int .i64 0) (fun t29 w =>
  gd t29 false (fun K w => K t3 w) (fun t31 w =>
  gd t29 false (boI .geq t31 (.int .i64 3)) (fun t32 w =>
  pk t29 (.bool true) t32 (fun t33 w =>
  ifb t33
  (K (.tuple #[(.pointer none), (.int .i64 2)]) w)
  (boI .lss t4 (.int .i64 1) (fun t35 w =>
  ifb t35
  (K (.tuple #[(.pointer none), (.int .i64 3)]) w)
  (nck t0 (fun t37 w =>
  fd 3 t37 (fun t38 w =>
  ld1 t38 (fun t39 w =>
  ixs 9 t39 t1 (fun t41 w =>
  s62_p4 K t0 t2 t5 t41 w) w) w) w) w)) w)) w) w) w) w)) w) w) w) w) w) w) w) w) w
def s62_p5_den (K : Value → World → Prop) : (Nat → Value) → World → Prop := denL Try.prog [(cd (Try.f62.body.getD .skip) [0]), (cd (Try.f62.body.getD .skip) [1, 0, 0]), (cd (Try.f62.body.getD .skip) [1, 0, 1]), (cd (Try.f62.body.getD .skip) [1, 1, 0, 0]), (cd (Try.f62.body.getD .skip) [1, 1, 0, 1]), (cd (Try.f62.body.getD .skip) [1, 1, 1, 0, 0]), (cd (Try.f62.body.getD .skip) [1, 1, 1, 0, 1]), (cd (Try.f62.body.getD .skip) [1, 1, 1, 1, 0])] (s62_p4_den K) (fun i => (fun _ _ => False)) (s62_R K)
theorem s62_p5_ok (K : Value → World → Prop) (s : Nat → Value) (w : World) (h : s62_p5 K (s 0) (s 1) (s 2) (s 3) (s 4) (s 5) w) : Tr (s62_p5_den K s w) :=
  tr_simple (P := Try.prog) (codes := [(cd (Try.f62.body.getD .skip) [0]), (cd (Try.f62.body.getD .skip) [1, 0, 0]), (cd (Try.f62.body.getD .skip) [1, 0, 1]), (cd (Try.f62.body.getD .skip) [1, 1, 0, 0]), (cd (Try.f62.body.getD .skip) [1, 1, 0, 1]), (cd (Try.f62.body.getD .skip) [1, 1, 1, 0, 0]), (cd (Try.f62.body.getD .skip) [1, 1, 1, 0, 1]), (cd (Try.f62.body.getD .skip) [1, 1, 1, 1, 0])]) (N := (fun s w => s62_p4 K (s 0) (s 2) (s 5) (s 14) w)) (N' := (s62_p4_den K)) (X := (fun i => (fun _ _ => False))) (X' := (fun i => (fun _ _ => False))) (R := s62_R K) (s := s) (w := w) (p := s62_p5 K (s 0) (s 1) (s 2) (s 3) (s 4) (s 5) w) (q := s62_p5_den K s w) (fun s w h => s62_p4_ok K s w @h) (fun i => tr_id) (by kernel_rfl) (by kernel_rfl) @h
/-- the call, from the text -/
theorem c62 (t0 t1 t2 t3 t4 t5 : Value) {K : Value → World → Prop} {w : World} (h : s62_p5 K t0 t1 t2 t3 t4 t5 w) : cl Try.prog 62 #[t0, t1, t2, t3, t4, t5] K w :=
  calls_of_tr (c := (Try.f62.body.getD .skip)) (fn := Try.f62) (q := s62_p5_den K (st0 #[t0, t1, t2, t3, t4, t5]) w) Try.func62 (by kernel_rfl) (by kernel_rfl) (Nat.le_of_ble_eq_true (by kernel_rfl)) (by kernel_rfl) (by kernel_rfl) (s62_p5_ok K (st0 #[t0, t1, t2, t3, t4, t5]) w @h)

/-! ### function 63 : e2e.slots.result -/
def s63_R (K : Value → World → Prop) (s : Nat → Value) (w : World) : Prop := retv Try.prog s Try.f63.results.toList (fun vs => K (pack vs) w) w
def s63_p1 (K : Value → World → Prop) (t0 t1 t2 t3 t4 t5 : Value) (w : World) : Prop :=
  boI .eql t0 (.int .i64 0) (fun t14 w =>
  ifb t14
  (K .nilIface w)
  (bdq [(.int .i64 0), (.string ⟨#[]⟩), (.int .i64 0), (.int .i64 0), (.int .i64 0), (.int .i64 0)] [(some (0, 1), t0), (some (1, 1), t1), (some (2, 1), t2), (some (3, 1), t3), (some (4, 1), t4), (some (5, 1), t5)] (fun t21 w =>
  nw 111 (t21).cells (fun t22 w =>
  K (.iface 108 t22) w) w) w)) w
def s63_p1_den (K : Value → World → Prop) : (Nat → Value) → World → Prop := denL Try.prog [(cd (Try.f63.body.getD .skip) [0]), (cd (Try.f63.body.getD .skip) [1, 0, 0]), (cd (Try.f63.body.getD .skip) [1, 0, 1]), (cd (Try.f63.body.getD .skip) [1, 1, 0]), (cd (Try.f63.body.getD .skip) [1, 1, 1])] (fun _ _ => False) (fun i => (fun _ _ => False)) (s63_R K)
theorem s63_p1_ok (K : Value → World → Prop) (s : Nat → Value) (w : World) (h : s63_p1 K (s 0) (s 1) (s 2) (s 3) (s 4) (s 5) w) : Tr (s63_p1_den K s w) :=
  tr_simple (P := Try.prog) (codes := [(cd (Try.f63.body.getD .skip) [0]), (cd (Try.f63.body.getD .skip) [1, 0, 0]), (cd (Try.f63.body.getD .skip) [1, 0, 1]), (cd (Try.f63.body.getD .skip) [1, 1, 0]), (cd (Try.f63.body.getD .skip) [1, 1, 1])]) (N := (fun _ _ => False)) (N' := (fun _ _ => False)) (X := (fun i => (fun _ _ => False))) (X' := (fun i => (fun _ _ => False))) (R := s63_R K) (s := s) (w := w) (p := s63_p1 K (s 0) (s 1) (s 2) (s 3) (s 4) (s 5) w) (q := s63_p1_den K s w) tr_id (fun i => tr_id) (by kernel_rfl) (by kernel_rfl) @h
/-- the call, from the text -/
theorem c63 (t0 t1 t2 t3 t4 t5 : Value) {K : Value → World → Prop} {w : World} (h : s63_p1 K t0 t1 t2 t3 t4 t5 w) : cl Try.prog 63 #[t0, t1, t2, t3, t4, t5] K w :=
  calls_of_tr (c := (Try.f63.body.getD .skip)) (fn := Try.f63) (q := s63_p1_den K (st0 #[t0, t1, t2, t3, t4, t5]) w) Try.func63 (by kernel_rfl) (by kernel_rfl) (Nat.le_of_ble_eq_true (by kernel_rfl)) (by kernel_rfl) (by kernel_rfl) (s63_p1_ok K (st0 #[t0, t1, t2, t3, t4, t5]) w @h)

/-! ### function 64 : (*e2e.slots.table).cell -/
def s64_R (K : Value → World → Prop) (s : Nat → Value) (w : World) : Prop := retv Try.prog s Try.f64.results.toList (fun vs => K (pack vs) w) w
def s64_p1 (K : Value → World → Prop) (t4 : Value) (w : World) : Prop :=
  K t4 w
def s64_p1_den (K : Value → World → Prop) : (Nat → Value) → World → Prop := denL Try.prog [(cd (Try.f64.body.getD .skip) [1, 1])] (fun _ _ => False) (fun i => (fun _ _ => False)) (s64_R K)
theorem s64_p1_ok (K : Value → World → Prop) (s : Nat → Value) (w : World) (h : s64_p1 K (s 4) w) : Tr (s64_p1_den K s w) :=
  tr_simple (P := Try.prog) (codes := [(cd (Try.f64.body.getD .skip) [1, 1])]) (N := (fun _ _ => False)) (N' := (fun _ _ => False)) (X := (fun i => (fun _ _ => False))) (X' := (fun i => (fun _ _ => False))) (R := s64_R K) (s := s) (w := w) (p := s64_p1 K (s 4) w) (q := s64_p1_den K s w) tr_id (fun i => tr_id) (by kernel_rfl) (by kernel_rfl) @h
def s64_p2_d (K : Value → World → Prop) (t0 t1 : Value) (w0 w : World) : Prop :=
  nck t0 (fun t7 _ =>
  fd 5 t7 (fun t8 _ =>
  ld1 t8 (fun t9 _ =>
  boI .add t1 t9 (fun t10 _ =>
  nck t0 (fun t12 _ =>
  fd 6 t12 (fun t13 _ =>
  ld1 t13 (fun t14 _ =>
  boI .rem t10 t14 (fun t15 _ =>
  s64_p1 K t15 w) w0) w0) w0) w0) w0) w0) w0) w0
def s64_p2 (K : Value → World → Prop) (t0 t1 : Value) (w : World) : Prop := s64_p2_d K t0 t1 (drw w) (drw w)
def s64_p2_den (K : Value → World → Prop) : (Nat → Value) → World → Prop := denL Try.prog [(cd (Try.f64.body.getD .skip) [1, 0])] (s64_p1_den K) (fun i => (fun _ _ => False)) (s64_R K)
theorem s64_p2_ok (K : Value → World → Prop) (s : Nat → Value) (w : World) (h : s64_p2 K (s 0) (s 1) w) : Tr (s64_p2_den K s w) :=
  tr_draw (P := Try.prog) (ops := (ro (cd (Try.f64.body.getD .skip) [1, 0]))) (ms := [0, 0, 2, 6, 14, 31, 0, 64, 192, 448, 1023, 2047]) (cs := [0, 1, 2, 3, 4, 5, 6, 7, 8, 9, 10, 11]) (N := (fun s w => s64_p1 K (s 4) w)) (N' := (s64_p1_den K)) (s := s) (w := w) (p := s64_p2 K (s 0) (s 1) w) (q := s64_p2_den K s w) (by kernel_rfl) (by kernel_rfl) (fun s w h => s64_p1_ok K s w @h) (by kernel_rfl) (by kernel_rfl) @h
def s64_p3 (K : Value → World → Prop) (t0 t1 : Value) (w : World) : Prop :=
  s64_p2 K t0 t1 w
def s64_p3_den (K : Value → World → Prop) : (Nat → Value) → World → Prop := denL Try.prog [(cd (Try.f64.body.getD .skip) [0])] (s64_p2_den K) (fun i => (fun _ _ => False)) (s64_R K)
theorem s64_p3_ok (K : Value → World → Prop) (s : Nat → Value) (w : World) (h : s64_p3 K (s 0) (s 1) w) : Tr (s64_p3_den K s w) :=
  tr_simple (P := Try.prog) (codes := [(cd (Try.f64.body.getD .skip) [0])]) (N := (fun s w => s64_p2 K (s 0) (s 1) w)) (N' := (s64_p2_den K)) (X := (fun i => (fun _ _ => False))) (X' := (fun i => (fun _ _ => False))) (R := s64_R K) (s := s) (w := w) (p := s64_p3 K (s 0) (s 1) w) (q := s64_p3_den K s w) (fun s w h => s64_p2_ok K s w @h) (fun i => tr_id) (by kernel_rfl) (by kernel_rfl) @h
/-- the call, from the text -/
theorem c64 (t0 t1 : Value) {K : Value → World → Prop} {w : World} (h : s64_p3 K t0 t1 w) : cl Try.prog 64 #[t0, t1] K w :=
  calls_of_tr (c := (Try.f64.body.getD .skip)) (fn := Try.f64) (q := s64_p3_den K (st0 #[t0, t1]) w) Try.func64 (by kernel_rfl) (by kernel_rfl) (Nat.le_of_ble_eq_true (by kernel_rfl)) (by kernel_rfl) (by kernel_rfl) (s64_p3_ok K (st0 #[t0, t1]) w @h)

/-! ### function 65 : (*e2e.slots.table).admitted -/
def s65_R (K : Value → World → Prop) (s : Nat → Value) (w : World) : Prop := retv Try.prog s Try.f65.results.toList (fun vs => K (pack vs) w) w
def s65_p1 (K : Value → World → Prop) (t6 : Value) (w : World) : Prop :=
  K t6 w
def s65_p1_den (K : Value → World → Prop) : (Nat → Value) → World → Prop := denL Try.prog [(cd (Try.f65.body.getD .skip) [1, 1])] (fun _ _ => False) (fun i => (fun _ _ => False)) (s65_R K)
theorem s65_p1_ok (K : Value → World → Prop) (s : Nat → Value) (w : World) (h : s65_p1 K (s 6) w) : Tr (s65_p1_den K s w) :=
  tr_simple (P := Try.prog) (codes := [(cd (Try.f65.body.getD .skip) [1, 1])]) (N := (fun _ _ => False)) (N' := (fun _ _ => False)) (X := (fun i => (fun _ _ => False))) (X' := (fun i => (fun _ _ => False))) (R := s65_R K) (s := s) (w := w) (p := s65_p1 K (s 6) w) (q := s65_p1_den K s w) tr_id (fun i => tr_id) (by kernel_rfl) (by kernel_rfl) @h
def s65_p2_d (K : Value → World → Prop) (t0 t1 t2 : Value) (w0 w : World) : Prop :=
  nck t0 (fun t8 _ =>
  fd 8 t8 (fun t9 _ =>
  ld1 t9 (fun t10 _ =>
  cl Try.prog 64 #[t0, t1] (fun t13 w =>
  Below w0.heap.size w0 w ∧
  boI .mul t13 (.int .i64 3) (fun t14 w =>
  Below w0.heap.size w0 w ∧
  boI .add t14 t2 (fun t16 w =>
  Below w0.heap.size w0 w ∧
  ixs 1 t10 t16 (fun t17 w =>
  ld1 t17 (fun t18 w =>
  s65_p1 K t18 w) w) w) w) w) w) w0) w0) w0
def s65_p2 (K : Value → World → Prop) (t0 t1 t2 : Value) (w : World) : Prop := s65_p2_d K t0 t1 t2 (drw w) (drw w)
def s65_p2_den (K : Value → World → Prop) : (Nat → Value) → World → Prop := denL Try.prog [(cd (Try.f65.body.getD .skip) [1, 0])] (s65_p1_den K) (fun i => (fun _ _ => False)) (s65_R K)
theorem s65_p2_ok (K : Value → World → Prop) (s : Nat → Value) (w : World) (h : s65_p2 K (s 0) (s 1) (s 2) w) : Tr (s65_p2_den K s w) :=
  tr_draw (P := Try.prog) (ops := (ro (cd (Try.f65.body.getD .skip) [1, 0]))) (ms := [0, 1, 3, 7, 0, 0, 48, 112, 0, 496, 1023, 2047, 4095]) (cs := [0, 1, 2, 3, 4, 5, 8]) (N := (fun s w => s65_p1 K (s 6) w)) (N' := (s65_p1_den K)) (s := s) (w := w) (p := s65_p2 K (s 0) (s 1) (s 2) w) (q := s65_p2_den K s w) (by kernel_rfl) (by kernel_rfl) (fun s w h => s65_p1_ok K s w @h) (by kernel_rfl) (by kernel_rfl) @h
def s65_p3 (K : Value → World → Prop) (t0 t1 t2 : Value) (w : World) : Prop :=
  s65_p2 K t0 t1 t2 w
def s65_p3_den (K : Value → World → Prop) : (Nat → Value) → World → Prop := denL Try.prog [(cd (Try.f65.body.getD .skip) [0])] (s65_p2_den K) (fun i => (fun _ _ => False)) (s65_R K)
theorem s65_p3_ok (K : Value → World → Prop) (s : Nat → Value) (w : World) (h : s65_p3 K (s 0) (s 1) (s 2) w) : Tr (s65_p3_den K s w) :=
  tr_simple (P := Try.prog) (codes := [(cd (Try.f65.body.getD .skip) [0])]) (N := (fun s w => s65_p2 K (s 0) (s 1) (s 2) w)) (N' := (s65_p2_den K)) (X := (fun i => (fun _ _ => False))) (X' := (fun i => (fun _ _ => False))) (R := s65_R K) (s := s) (w := w) (p := s65_p3 K (s 0) (s 1) (s 2) w) (q := s65_p3_den K s w) (fun s w h => s65_p2_ok K s w @h) (fun i => tr_id) (by kernel_rfl) (by kernel_rfl) @h
/-- the call, from the text -/
theorem c65 (t0 t1 t2 : Value) {K : Value → World → Prop} {w : World} (h : s65_p3 K t0 t1 t2 w) : cl Try.prog 65 #[t0, t1, t2] K w :=
  calls_of_tr (c := (Try.f65.body.getD .skip)) (fn := Try.f65) (q := s65_p3_den K (st0 #[t0, t1, t2]) w) Try.func65 (by kernel_rfl) (by kernel_rfl) (Nat.le_of_ble_eq_true (by kernel_rfl)) (by kernel_rfl) (by kernel_rfl) (s65_p3_ok K (st0 #[t0, t1, t2]) w @h)

/-! ### function 66 : (*e2e.slots.table).add -/
def s66_R (K : Value → World → Prop) (s : Nat → Value) (w : World) : Prop := retv Try.prog s Try.f66.results.toList (fun vs => K (pack vs) w) w
def s66_p1 (K : Value → World → Prop) (B1 : List Value → World → Prop) (t0 t3 t8 t9 : Value) (w : World) : Prop :=
  nck t0 (fun t28 w =>
  fd 0 t28 (fun t29 w =>
  fd 1 t29 (fun t30 w =>
  ld1 t30 (fun t31 w =>
  boI .lss t9 t31 (fun t32 w =>
  ifb t32
  (nck t0 (fun t36 w =>
  fd 7 t36 (fun t37 w =>
  ld1 t37 (fun t38 w =>
  ixs 1 t38 t8 (fun t40 w =>
  ld1 t40 (fun t41 w =>
  boI .add t41 t3 (fun t43 w =>
  ixs 1 t38 t8 (fun t44 w =>
  st1 t44 t43 (fun w =>
  cl Try.prog 77 #[t0, t8] (fun t47 w =>
  boI .add t9 (.int .i64 1) (fun t34 w =>
  B1 [t0, t3, t47, t34] w) w) w) w) w) w) w) w) w) w) w)
  (K (.tuple #[]) w)) w) w) w) w) w
def s66_p1_den (K : Value → World → Prop) (M1 : (Nat → Value) → World → Prop) : (Nat → Value) → World → Prop := denL Try.prog [(cd (Try.f66.body.getD .skip) [1, 1, 1, 0, 0, 0, 0]), (cd (Try.f66.body.getD .skip) [1, 1, 1, 0, 0, 0, 1]), (cd (Try.f66.body.getD .skip) [1, 1, 1, 0, 0, 1, 0]), (cd (Try.f66.body.getD .skip) [1, 1, 1, 0, 0, 1, 1])] M1 (fun i => (bif Nat.beq i 0 then (s66_R K) else (fun _ _ => False))) (s66_R K)
theorem s66_p1_ok (K : Value → World → Prop) (B1 : List Value → World → Prop) (s : Nat → Value) (w : World) (h : s66_p1 K B1 (s 0) (s 3) (s 8) (s 9) w) : Tr (s66_p1_den K (fun s w => B1 [s 0, s 3, s 8, s 9] w) s w) :=
  tr_simple (P := Try.prog) (codes := [(cd (Try.f66.body.getD .skip) [1, 1, 1, 0, 0, 0, 0]), (cd (Try.f66.body.getD .skip) [1, 1, 1, 0, 0, 0, 1]), (cd (Try.f66.body.getD .skip) [1, 1, 1, 0, 0, 1, 0]), (cd (Try.f66.body.getD .skip) [1, 1, 1, 0, 0, 1, 1])]) (N := (fun s w => B1 [s 0, s 3, s 8, s 9] w)) (N' := (fun s w => B1 [s 0, s 3, s 8, s 9] w)) (X := (fun i => (bif Nat.beq i 0 then (s66_R K) else (fun _ _ => False)))) (X' := (fun i => (bif Nat.beq i 0 then (s66_R K) else (fun _ _ => False)))) (R := s66_R K) (s := s) (w := w) (p := s66_p1 K B1 (s 0) (s 3) (s 8) (s 9) w) (q := s66_p1_den K (fun s w => B1 [s 0, s 3, s 8, s 9] w) s w) tr_id (fun i => (tr_bif tr_id tr_id)) (by kernel_rfl) (by kernel_rfl) @h
def s66_p2_F (K : Value → World → Prop) (B1 : List Value → World → Prop) (l : List Value) (w : World) : Prop :=
  match l with
  | [t0, t3, t8, t9] => s66_p1 K B1 t0 t3 t8 t9 w
  | _ => False
theorem s66_p2_Fe {K : Value → World → Prop} {B1 : List Value → World → Prop} {t0 t3 t8 t9 : Value} {w : World} : s66_p2_F K B1 [t0, t3, t8, t9] w = s66_p1 K B1 t0 t3 t8 t9 w := by kernel_rfl
def s66_p2 (K : Value → World → Prop) (t0 t3 t8 t9 : Value) (w : World) : Prop :=
  LoopL (s66_p2_F K) [t0, t3, t8, t9] w
def s66_p2_den (K : Value → World → Prop) : (Nat → Value) → World → Prop := fun s w => LoopP (fun M1 s w => s66_p1_den K M1 s w) s w
theorem s66_p2_ok (K : Value → World → Prop) (s : Nat → Value) (w : World) (h : s66_p2 K (s 0) (s 3) (s 8) (s 9) w) : Tr (s66_p2_den K s w) :=
  tr_loop (G := fun N' s w => s66_p1_den K N' s w) (F := s66_p2_F K) (sel := fun s => [s 0, s 3, s 8, s 9]) (s := s) (w := w) (p := s66_p2 K (s 0) (s 3) (s 8) (s 9) w) (q := s66_p2_den K s w) (fun B s w h => s66_p1_ok K B s w @h) (by kernel_rfl) (by kernel_rfl) @h
def s66_p3 (K : Value → World → Prop) (t0 t1 t2 t3 : Value) (w : World) : Prop :=
  cl Try.prog 64 #[t0, t1] (fun t12 w =>
  nck t0 (fun t14 w =>
  fd 8 t14 (fun t15 w =>
  ld1 t15 (fun t16 w =>
  boI .mul t12 (.int .i64 3) (fun t18 w =>
  boI .add t18 t2 (fun t20 w =>
  ixs 1 t16 t20 (fun t21 w =>
  ld1 t21 (fun t22 w =>
  boI .add t22 t3 (fun t24 w =>
  ixs 1 t16 t20 (fun t25 w =>
  st1 t25 t24 (fun w =>
  s66_p2 K t0 t3 t12 (.int .i64 0) w) w) w) w) w) w) w) w) w) w) w) w
def s66_p3_den (K : Value → World → Prop) : (Nat → Value) → World → Prop := denL Try.prog [(cd (Try.f66.body.getD .skip) [0]), (cd (Try.f66.body.getD .skip) [1, 0]), (cd (Try.f66.body.getD .skip) [1, 1, 0])] (s66_p2_den K) (fun i => (fun _ _ => False)) (s66_R K)
theorem s66_p3_ok (K : Value → World → Prop) (s : Nat → Value) (w : World) (h : s66_p3 K (s 0) (s 1) (s 2) (s 3) w) : Tr (s66_p3_den K s w) :=
  tr_simple (P := Try.prog) (codes := [(cd (Try.f66.body.getD .skip) [0]), (cd (Try.f66.body.getD .skip) [1, 0]), (cd (Try.f66.body.getD .skip) [1, 1, 0])]) (N := (fun s w => s66_p2 K (s 0) (s 3) (s 8) (s 9) w)) (N' := (s66_p2_den K)) (X := (fun i => (fun _ _ => False))) (X' := (fun i => (fun _ _ => False))) (R := s66_R K) (s := s) (w := w) (p := s66_p3 K (s 0) (s 1) (s 2) (s 3) w) (q := s66_p3_den K s w) (fun s w h => s66_p2_ok K s w @h) (fun i => tr_id) (by kernel_rfl) (by kernel_rfl) @h
/-- the call, from the text -/
theorem c66 (t0 t1 t2 t3 : Value) {K : Value → World → Prop} {w : World} (h : s66_p3 K t0 t1 t2 t3 w) : cl Try.prog 66 #[t0, t1, t2, t3] K w :=
  calls_of_tr (c := (Try.f66.body.getD .skip)) (fn := Try.f66) (q := s66_p3_den K (st0 #[t0, t1, t2, t3]) w) Try.func66 (by kernel_rfl) (by kernel_rfl) (Nat.le_of_ble_eq_true (by kernel_rfl)) (by kernel_rfl) (by kernel_rfl) (s66_p3_ok K (st0 #[t0, t1, t2, t3]) w @h)

/-! ### function 67 : (*e2e.slots.table).fits -/
def s67_R (K : Value → World → Prop) (s : Nat → Value) (w : World) : Prop := retv Try.prog s Try.f67.results.toList (fun vs => K (pack vs) w) w
def s67_p1 (K : Value → World → Prop) (t33 : Value) (w : World) : Prop :=
  ifb t33
  (K (.int .i64 6) w)
  (K (.int .i64 0) w)
def s67_p1_den (K : Value → World → Prop) : (Nat → Value) → World → Prop := denL Try.prog [(cd (Try.f67.body.getD .skip) [1, 1, 0, 1]), (cd (Try.f67.body.getD .skip) [1, 1, 1, 0]), (cd (Try.f67.body.getD .skip) [1, 1, 1, 1])] (fun _ _ => False) (fun i => (fun _ _ => False)) (s67_R K)
theorem s67_p1_ok (K : Value → World → Prop) (s : Nat → Value) (w : World) (h : s67_p1 K (s 33) w) : Tr (s67_p1_den K s w) :=
  tr_simple (P := Try.prog) (codes := [(cd (Try.f67.body.getD .skip) [1, 1, 0, 1]), (cd (Try.f67.body.getD .skip) [1, 1, 1, 0]), (cd (Try.f67.body.getD .skip) [1, 1, 1, 1])]) (N := (fun _ _ => False)) (N' := (fun _ _ => False)) (X := (fun i => (fun _ _ => False))) (X' := (fun i => (fun _ _ => False))) (R := s67_R K) (s := s) (w := w) (p := s67_p1 K (s 33) w) (q := s67_p1_den K s w) tr_id (fun i => tr_id) (by kernel_rfl) (by kernel_rfl) @h
def s67_p2_d (K : Value → World → Prop) (t0 t1 t2 t3 : Value) (w0 w : World) : Prop :=
  nck t0 (fun t23 _ =>
  fd 0 t23 (fun t24 _ =>
  fd 2 t24 (fun t25 _ =>
  ixa 3 1 t25 t2 (fun t26 _ =>
  ld1 t26 (fun t27 _ =>
  cl Try.prog 65 #[t0, t1, t2] (fun t31 w =>
  Below w0.heap.size w0 w ∧
  boI .sub t27 t31 (fun t32 w =>
  Below w0.heap.size w0 w ∧
  boI .gtr t3 t32 (fun t33 w =>
  s67_p1 K t33 w) w) w) w) w0) w0) w0) w0) w0
def s67_p2 (K : Value → World → Prop) (t0 t1 t2 t3 : Value) (w : World) : Prop := s67_p2_d K t0 t1 t2 t3 (drw w) (drw w)
def s67_p2_den (K : Value → World → Prop) : (Nat → Value) → World → Prop := denL Try.prog [(cd (Try.f67.body.getD .skip) [1, 1, 0, 0])] (s67_p1_den K) (fun i => (fun _ _ => False)) (s67_R K)
theorem s67_p2_ok (K : Value → World → Prop) (s : Nat → Value) (w : World) (h : s67_p2 K (s 0) (s 1) (s 2) (s 3) w) : Tr (s67_p2_den K s w) :=
  tr_draw (P := Try.prog) (ops := (ro (cd (Try.f67.body.getD .skip) [1, 1, 0, 0]))) (ms := [0, 0, 0, 2, 10, 26, 62, 126, 0, 0, 0, 1792, 4094, 8191]) (cs := [0, 1, 2, 3, 4, 5, 6, 7, 8, 9, 10]) (N := (fun s w => s67_p1 K (s 33) w)) (N' := (s67_p1_den K)) (s := s) (w := w) (p := s67_p2 K (s 0) (s 1) (s 2) (s 3) w) (q := s67_p2_den K s w) (by kernel_rfl) (by kernel_rfl) (fun s w h => s67_p1_ok K s w @h) (by kernel_rfl) (by kernel_rfl) @h
def s67_p3 (K : Value → World → Prop) (t0 t1 t2 t3 t19 : Value) (w : World) : Prop :=
  ifb t19
  (K (.int .i64 5) w)
  (s67_p2 K t0 t1 t2 t3 w)
def s67_p3_den (K : Value → World → Prop) : (Nat → Value) → World → Prop := denL Try.prog [(cd (Try.f67.body.getD .skip) [1, 0, 1])] (s67_p2_den K) (fun i => (fun _ _ => False)) (s67_R K)
theorem s67_p3_ok (K : Value → World → Prop) (s : Nat → Value) (w : World) (h : s67_p3 K (s 0) (s 1) (s 2) (s 3) (s 19) w) : Tr (s67_p3_den K s w) :=
  tr_simple (P := Try.prog) (codes := [(cd (Try.f67.body.getD .skip) [1, 0, 1])]) (N := (fun s w => s67_p2 K (s 0) (s 1) (s 2) (s 3) w)) (N' := (s67_p2_den K)) (X := (fun i => (fun _ _ => False))) (X' := (fun i => (fun _ _ => False))) (R := s67_R K) (s := s) (w := w) (p := s67_p3 K (s 0) (s 1) (s 2) (s 3) (s 19) w) (q := s67_p3_den K s w) (fun s w h => s67_p2_ok K s w @h) (fun i => tr_id) (by kernel_rfl) (by kernel_rfl) @h
def s67_p4_d (K : Value → World → Prop) (t0 t1 t2 t3 : Value) (w0 w : World) : Prop :=
  nck t0 (fun t11 _ =>
  fd 0 t11 (fun t12 _ =>
  fd 0 t12 (fun t13 _ =>
  ld1 t13 (fun t14 _ =>
  cl Try.prog 72 #[t0, t1] (fun t17 w =>
  Below w0.heap.size w0 w ∧
  boI .sub t14 t17 (fun t18 w =>
  Below w0.heap.size w0 w ∧
  boI .gtr t3 t18 (fun t19 w =>
  s67_p3 K t0 t1 t2 t3 t19 w) w) w) w) w0) w0) w0) w0
def s67_p4 (K : Value → World → Prop) (t0 t1 t2 t3 : Value) (w : World) : Prop := s67_p4_d K t0 t1 t2 t3 (drw w) (drw w)
def s67_p4_den (K : Value → World → Prop) : (Nat → Value) → World → Prop := denL Try.prog [(cd (Try.f67.body.getD .skip) [1, 0, 0])] (s67_p3_den K) (fun i => (fun _ _ => False)) (s67_R K)
theorem s67_p4_ok (K : Value → World → Prop) (s : Nat → Value) (w : World) (h : s67_p4 K (s 0) (s 1) (s 2) (s 3) w) : Tr (s67_p4_den K s w) :=
  tr_draw (P := Try.prog) (ops := (ro (cd (Try.f67.body.getD .skip) [1, 0, 0]))) (ms := [0, 0, 2, 6, 14, 30, 0, 0, 192, 510, 1023]) (cs := [0, 1, 2, 3, 4, 5, 6, 7]) (N := (fun s w => s67_p3 K (s 0) (s 1) (s 2) (s 3) (s 19) w)) (N' := (s67_p3_den K)) (s := s) (w := w) (p := s67_p4 K (s 0) (s 1) (s 2) (s 3) w) (q := s67_p4_den K s w) (by kernel_rfl) (by kernel_rfl) (fun s w h => s67_p3_ok K s w @h) (by kernel_rfl) (by kernel_rfl) @h
def s67_p5 (K : Value → World → Prop) (t0 t1 t2 t3 : Value) (w : World) : Prop :=
  s67_p4 K t0 t1 t2 t3 w
def s67_p5_den (K : Value → World → Prop) : (Nat → Value) → World → Prop := denL Try.prog [(cd (Try.f67.body.getD .skip) [0])] (s67_p4_den K) (fun i => (fun _ _ => False)) (s67_R K)
theorem s67_p5_ok (K : Value → World → Prop) (s : Nat → Value) (w : World) (h : s67_p5 K (s 0) (s 1) (s 2) (s 3) w) : Tr (s67_p5_den K s w) :=
  tr_simple (P := Try.prog) (codes := [(cd (Try.f67.body.getD .skip) [0])]) (N := (fun s w => s67_p4 K (s 0) (s 1) (s 2) (s 3) w)) (N' := (s67_p4_den K)) (X := (fun i => (fun _ _ => False))) (X' := (fun i => (fun _ _ => False))) (R := s67_R K) (s := s) (w := w) (p := s67_p5 K (s 0) (s 1) (s 2) (s 3) w) (q := s67_p5_den K s w) (fun s w h => s67_p4_ok K s w @h) (fun i => tr_id) (by kernel_rfl) (by kernel_rfl) @h
/-- the call, from the text -/
theorem c67 (t0 t1 t2 t3 : Value) {K : Value → World → Prop} {w : World} (h : s67_p5 K t0 t1 t2 t3 w) : cl Try.prog 67 #[t0, t1, t2, t3] K w :=
  calls_of_tr (c := (Try.f67.body.getD .skip)) (fn := Try.f67) (q := s67_p5_den K (st0 #[t0, t1, t2, t3]) w) Try.func67 (by kernel_rfl) (by kernel_rfl) (Nat.le_of_ble_eq_true (by kernel_rfl)) (by kernel_rfl) (by kernel_rfl) (s67_p5_ok K (st0 #[t0, t1, t2, t3]) w @h)

/-! ### function 68 : (*e2e.slots.table).sound -/
def s68_R (K : Value → World → Prop) (s : Nat → Value) (w : World) : Prop := retv Try.prog s Try.f68.results.toList (fun vs => K (pack vs) w) w
def s68_p1 (K : Value → World → Prop) (w : World) : Prop :=
  K (.bool true) w
def s68_p1_den (K : Value → World → Prop) : (Nat → Value) → World → Prop := denL Try.prog [(cd (Try.f68.body.getD .skip) [1, 1, 1, 1, 1, 0]), (cd (Try.f68.body.getD .skip) [1, 1, 1, 1, 1, 1])] (fun _ _ => False) (fun i => (fun _ _ => False)) (s68_R K)
theorem s68_p1_ok (K : Value → World → Prop) (s : Nat → Value) (w : World) (h : s68_p1 K w) : Tr (s68_p1_den K s w) :=
  tr_simple (P := Try.prog) (codes := [(cd (Try.f68.body.getD .skip) [1, 1, 1, 1, 1, 0]), (cd (Try.f68.body.getD .skip) [1, 1, 1, 1, 1, 1])]) (N := (fun _ _ => False)) (N' := (fun _ _ => False)) (X := (fun i => (fun _ _ => False))) (X' := (fun i => (fun _ _ => False))) (R := s68_R K) (s := s) (w := w) (p := s68_p1 K w) (q := s68_p1_den K s w) tr_id (fun i => tr_id) (by kernel_rfl) (by kernel_rfl) @h
def s68_p2 (K : Value → World → Prop) (B1 : List Value → World → Prop) (t0 t1 t5 t6 t7 t8 : Value) (w : World) : Prop :=
  boI .add t8 (.int .i64 1) (fun t40 w =>
  B1 [t0, t1, t5, t6, t7, t40] w) w
def s68_p2_den (K : Value → World → Prop) (M1 : (Nat → Value) → World → Prop) : (Nat → Value) → World → Prop := denL Try.prog [(cd (Try.f68.body.getD .skip) [1, 1, 1, 1, 0, 1, 0, 0, 1, 1])] M1 (fun i => (bif Nat.beq i 0 then (s68_p1_den K) else (fun _ _ => False))) (s68_R K)
theorem s68_p2_ok (K : Value → World → Prop) (B1 : List Value → World → Prop) (s : Nat → Value) (w : World) (h : s68_p2 K B1 (s 0) (s 1) (s 5) (s 6) (s 7) (s 8) w) : Tr (s68_p2_den K (fun s w => B1 [s 0, s 1, s 5, s 6, s 7, s 8] w) s w) :=
  tr_simple (P := Try.prog) (codes := [(cd (Try.f68.body.getD .skip) [1, 1, 1, 1, 0, 1, 0, 0, 1, 1])]) (N := (fun s w => B1 [s 0, s 1, s 5, s 6, s 7, s 8] w)) (N' := (fun s w => B1 [s 0, s 1, s 5, s 6, s 7, s 8] w)) (X := (fun i => (bif Nat.beq i 0 then (fun s w => s68_p1 K w) else (fun _ _ => False)))) (X' := (fun i => (bif Nat.beq i 0 then (s68_p1_den K) else (fun _ _ => False)))) (R := s68_R K) (s := s) (w := w) (p := s68_p2 K B1 (s 0) (s 1) (s 5) (s 6) (s 7) (s 8) w) (q := s68_p2_den K (fun s w => B1 [s 0, s 1, s 5, s 6, s 7, s 8] w) s w) tr_id (fun i => (tr_bif (fun s w h => s68_p1_ok K s w @h) tr_id)) (by kernel_rfl) (by kernel_rfl) @h
def s68_p3 (K : Value → World → Prop) (B1 : List Value → World → Prop) (t0 t1 t5 t6 t7 t8 : Value) (w : World) : Prop :=
  cl Try.prog 77 #[t0, t7] (fun t106 w =>
  s68_p2 K B1 t0 t1 t5 t6 t106 t8 w) w
def s68_p3_den (K : Value → World → Prop) (M1 : (Nat → Value) → World → Prop) : (Nat → Value) → World → Prop := denL Try.prog [(cd (Try.f68.body.getD .skip) [1, 1, 1, 1, 0, 1, 0, 0, 1, 0, 0, 1, 1, 1, 1, 0, 1])] (s68_p2_den K M1) (fun i => (bif Nat.beq i 1 then (s68_p2_den K M1) else (bif Nat.beq i 0 then (s68_p1_den K) else (fun _ _ => False)))) (s68_R K)
theorem s68_p3_ok (K : Value → World → Prop) (B1 : List Value → World → Prop) (s : Nat → Value) (w : World) (h : s68_p3 K B1 (s 0) (s 1) (s 5) (s 6) (s 7) (s 8) w) : Tr (s68_p3_den K (fun s w => B1 [s 0, s 1, s 5, s 6, s 7, s 8] w) s w) :=
  tr_simple (P := Try.prog) (codes := [(cd (Try.f68.body.getD .skip) [1, 1, 1, 1, 0, 1, 0, 0, 1, 0, 0, 1, 1, 1, 1, 0, 1])]) (N := (fun s w => s68_p2 K B1 (s 0) (s 1) (s 5) (s 6) (s 7) (s 8) w)) (N' := (s68_p2_den K (fun s w => B1 [s 0, s 1, s 5, s 6, s 7, s 8] w))) (X := (fun i => (bif Nat.beq i 1 then (fun s w => s68_p2 K B1 (s 0) (s 1) (s 5) (s 6) (s 7) (s 8) w) else (bif Nat.beq i 0 then (fun s w => s68_p1 K w) else (fun _ _ => False))))) (X' := (fun i => (bif Nat.beq i 1 then (s68_p2_den K (fun s w => B1 [s 0, s 1, s 5, s 6, s 7, s 8] w)) else (bif Nat.beq i 0 then (s68_p1_den K) else (fun _ _ => False))))) (R := s68_R K) (s := s) (w := w) (p := s68_p3 K B1 (s 0) (s 1) (s 5) (s 6) (s 7) (s 8) w) (q := s68_p3_den K (fun s w => B1 [s 0, s 1, s 5, s 6, s 7, s 8] w) s w) (fun s w h => s68_p2_ok K B1 s w @h) (fun i => (tr_bif (fun s w h => s68_p2_ok K B1 s w @h) (tr_bif (fun s w h => s68_p1_ok K s w @h) tr_id))) (by kernel_rfl) (by kernel_rfl) @h
def s68_p4 (K : Value → World → Prop) (B1 : List Value → World → Prop) (B2 : List Value → World → Prop) (t0 t1 t5 t6 t7 t8 t10 : Value) (w : World) : Prop :=
  boI .lss t10 (.int .i64 3) (fun t89 w =>
  ifb t89
  (nck t0 (fun t94 w =>
  fd 8 t94 (fun t95 w =>
  ld1 t95 (fun t96 w =>
  boI .mul t7 (.int .i64 3) (fun t98 w =>
  boI .add t98 t10 (fun t100 w =>
  ixs 1 t96 t100 (fun t101 w =>
  ld1 t101 (fun t102 w =>
  boI .sub t5 t102 (fun t103 w =>
  boI .add t10 (.int .i64 1) (fun t91 w =>
  B2 [t0, t1, t103, t6, t7, t8, t91] w) w) w) w) w) w) w) w) w) w)
  (s68_p3 K B1 t0 t1 t5 t6 t7 t8 w)) w
def s68_p4_den (K : Value → World → Prop) (M1 : (Nat → Value) → World → Prop) (M2 : (Nat → Value) → World → Prop) : (Nat → Value) → World → Prop := denL Try.prog [(cd (Try.f68.body.getD .skip) [1, 1, 1, 1, 0, 1, 0, 0, 1, 0, 0, 1, 1, 1, 1, 0, 0, 1, 0, 0, 0, 0]), (cd (Try.f68.body.getD .skip) [1, 1, 1, 1, 0, 1, 0, 0, 1, 0, 0, 1, 1, 1, 1, 0, 0, 1, 0, 0, 0, 1]), (cd (Try.f68.body.getD .skip) [1, 1, 1, 1, 0, 1, 0, 0, 1, 0, 0, 1, 1, 1, 1, 0, 0, 1, 0, 0, 1, 0]), (cd (Try.f68.body.getD .skip) [1, 1, 1, 1, 0, 1, 0, 0, 1, 0, 0, 1, 1, 1, 1, 0, 0, 1, 0, 0, 1, 1])] M2 (fun i => (bif Nat.beq i 4 then (s68_p3_den K M1) else (bif Nat.beq i 1 then (s68_p2_den K M1) else (bif Nat.beq i 0 then (s68_p1_den K) else (fun _ _ => False))))) (s68_R K)
theorem s68_p4_ok (K : Value → World → Prop) (B1 : List Value → World → Prop) (B2 : List Value → World → Prop) (s : Nat → Value) (w : World) (h : s68_p4 K B1 B2 (s 0) (s 1) (s 5) (s 6) (s 7) (s 8) (s 10) w) : Tr (s68_p4_den K (fun s w => B1 [s 0, s 1, s 5, s 6, s 7, s 8] w) (fun s w => B2 [s 0, s 1, s 5, s 6, s 7, s 8, s 10] w) s w) :=
  tr_simple (P := Try.prog) (codes := [(cd (Try.f68.body.getD .skip) [1, 1, 1, 1, 0, 1, 0, 0, 1, 0, 0, 1, 1, 1, 1, 0, 0, 1, 0, 0, 0, 0]), (cd (Try.f68.body.getD .skip) [1, 1, 1, 1, 0, 1, 0, 0, 1, 0, 0, 1, 1, 1, 1, 0, 0, 1, 0, 0, 0, 1]), (cd (Try.f68.body.getD .skip) [1, 1, 1, 1, 0, 1, 0, 0, 1, 0, 0, 1, 1, 1, 1, 0, 0, 1, 0, 0, 1, 0]), (cd (Try.f68.body.getD .skip) [1, 1, 1, 1, 0, 1, 0, 0, 1, 0, 0, 1, 1, 1, 1, 0, 0, 1, 0, 0, 1, 1])]) (N := (fun s w => B2 [s 0, s 1, s 5, s 6, s 7, s 8, s 10] w)) (N' := (fun s w => B2 [s 0, s 1, s 5, s 6, s 7, s 8, s 10] w)) (X := (fun i => (bif Nat.beq i 4 then (fun s w => s68_p3 K B1 (s 0) (s 1) (s 5) (s 6) (s 7) (s 8) w) else (bif Nat.beq i 1 then (fun s w => s68_p2 K B1 (s 0) (s 1) (s 5) (s 6) (s 7) (s 8) w) else (bif Nat.beq i 0 then (fun s w => s68_p1 K w) else (fun _ _ => False)))))) (X' := (fun i => (bif Nat.beq i 4 then (s68_p3_den K (fun s w => B1 [s 0, s 1, s 5, s 6, s 7, s 8] w)) else (bif Nat.beq i 1 then (s68_p2_den K (fun s w => B1 [s 0, s 1, s 5, s 6, s 7, s 8] w)) else (bif Nat.beq i 0 then (s68_p1_den K) else (fun _ _ => False)))))) (R := s68_R K) (s := s) (w := w) (p := s68_p4 K B1 B2 (s 0) (s 1) (s 5) (s 6) (s 7) (s 8) (s 10) w) (q := s68_p4_den K (fun s w => B1 [s 0, s 1, s 5, s 6, s 7, s 8] w) (fun s w => B2 [s 0, s 1, s 5, s 6, s 7, s 8, s 10] w) s w) tr_id (fun i => (tr_bif (fun s w h => s68_p3_ok K B1 s w @h) (tr_bif (fun s w h => s68_p2_ok K B1 s w @h) (tr_bif (fun s w h => s68_p1_ok K s w @h) tr_id)))) (by kernel_rfl) (by kernel_rfl) @h
def s68_p5_F (K : Value → World → Prop) (B1 : List Value → World → Prop) (B2 : List Value → World → Prop) (l : List Value) (w : World) : Prop :=
  match l with
  | [t0, t1, t5, t6, t7, t8, t10] => s68_p4 K B1 B2 t0 t1 t5 t6 t7 t8 t10 w
  | _ => False
theorem s68_p5_Fe {K : Value → World → Prop} {B1 : List Value → World → Prop} {B2 : List Value → World → Prop} {t0 t1 t5 t6 t7 t8 t10 : Value} {w : World} : s68_p5_F K B1 B2 [t0, t1, t5, t6, t7, t8, t10] w = s68_p4 K B1 B2 t0 t1 t5 t6 t7 t8 t10 w := by kernel_rfl
def s68_p5 (K : Value → World → Prop) (B1 : List Value → World → Prop) (t0 t1 t5 t6 t7 t8 t10 : Value) (w : World) : Prop :=
  LoopL (s68_p5_F K B1) [t0, t1, t5, t6, t7, t8, t10] w
def s68_p5_den (K : Value → World → Prop) (M1 : (Nat → Value) → World → Prop) : (Nat → Value) → World → Prop := fun s w => LoopP (fun M2 s w => s68_p4_den K M1 M2 s w) s w
theorem s68_p5_ok (K : Value → World → Prop) (B1 : List Value → World → Prop) (s : Nat → Value) (w : World) (h : s68_p5 K B1 (s 0) (s 1) (s 5) (s 6) (s 7) (s 8) (s 10) w) : Tr (s68_p5_den K (fun s w => B1 [s 0, s 1, s 5, s 6, s 7, s 8] w) s w) :=
  tr_loop (G := fun N' s w => s68_p4_den K (fun s w => B1 [s 0, s 1, s 5, s 6, s 7, s 8] w) N' s w) (F := s68_p5_F K B1) (sel := fun s => [s 0, s 1, s 5, s 6, s 7, s 8, s 10]) (s := s) (w := w) (p := s68_p5 K B1 (s 0) (s 1) (s 5) (s 6) (s 7) (s 8) (s 10) w) (q := s68_p5_den K (fun s w => B1 [s 0, s 1, s 5, s 6, s 7, s 8] w) s w) (fun B s w h => s68_p4_ok K B1 B s w @h) (by kernel_rfl) (by kernel_rfl) @h
def s68_p6 (K : Value → World → Prop) (B1 : List Value → World → Prop) (t0 t1 t5 t6 t7 t8 : Value) (w : World) : Prop :=
  s68_p5 K B1 t0 t1 t5 t6 t7 t8 (.int .i64 0) w
def s68_p6_den (K : Value → World → Prop) (M1 : (Nat → Value) → World → Prop) : (Nat → Value) → World → Prop := denL Try.prog [(cd (Try.f68.body.getD .skip) [1, 1, 1, 1, 0, 1, 0, 0, 1, 0, 0, 1, 1, 1, 1, 0, 0, 0])] (s68_p5_den K M1) (fun i => (bif Nat.beq i 1 then (s68_p2_den K M1) else (bif Nat.beq i 0 then (s68_p1_den K) else (fun _ _ => False)))) (s68_R K)
theorem s68_p6_ok (K : Value → World → Prop) (B1 : List Value → World → Prop) (s : Nat → Value) (w : World) (h : s68_p6 K B1 (s 0) (s 1) (s 5) (s 6) (s 7) (s 8) w) : Tr (s68_p6_den K (fun s w => B1 [s 0, s 1, s 5, s 6, s 7, s 8] w) s w) :=
  tr_simple (P := Try.prog) (codes := [(cd (Try.f68.body.getD .skip) [1, 1, 1, 1, 0, 1, 0, 0, 1, 0, 0, 1, 1, 1, 1, 0, 0, 0])]) (N := (fun s w => s68_p5 K B1 (s 0) (s 1) (s 5) (s 6) (s 7) (s 8) (s 10) w)) (N' := (s68_p5_den K (fun s w => B1 [s 0, s 1, s 5, s 6, s 7, s 8] w))) (X := (fun i => (bif Nat.beq i 1 then (fun s w => s68_p2 K B1 (s 0) (s 1) (s 5) (s 6) (s 7) (s 8) w) else (bif Nat.beq i 0 then (fun s w => s68_p1 K w) else (fun _ _ => False))))) (X' := (fun i => (bif Nat.beq i 1 then (s68_p2_den K (fun s w => B1 [s 0, s 1, s 5, s 6, s 7, s 8] w)) else (bif Nat.beq i 0 then (s68_p1_den K) else (fun _ _ => False))))) (R := s68_R K) (s := s) (w := w) (p := s68_p6 K B1 (s 0) (s 1) (s 5) (s 6) (s 7) (s 8) w) (q := s68_p6_den K (fun s w => B1 [s 0, s 1, s 5, s 6, s 7, s 8] w) s w) (fun s w h => s68_p5_ok K B1 s w @h) (fun i => (tr_bif (fun s w h => s68_p2_ok K B1 s w @h) (tr_bif (fun s w h => s68_p1_ok K s w @h) tr_id))) (by kernel_rfl) (by kernel_rfl) @h
def s68_p7 (K : Value → World → Prop) (B1 : List Value → World → Prop) (t0 t1 t5 t6 t7 t8 t87 : Value) (w : World) : Prop :=
  ifb t87
  (s68_p6 K B1 t0 t1 t5 t6 t7 t8 w)
  (s68_p2 K B1 t0 t1 t5 t6 t7 t8 w)
def s68_p7_den (K : Value → World → Prop) (M1 : (Nat → Value) → World → Prop) : (Nat → Value) → World → Prop := fun s w => ifb (ev s (.tmp 87)) ((s68_p6_den K M1) s w) ((s68_p2_den K M1) s w)
theorem s68_p7_ok (K : Value → World → Prop) (B1 : List Value → World → Prop) (s : Nat → Value) (w : World) (h : s68_p7 K B1 (s 0) (s 1) (s 5) (s 6) (s 7) (s 8) (s 87) w) : Tr (s68_p7_den K (fun s w => B1 [s 0, s 1, s 5, s 6, s 7, s 8] w) s w) :=
  tr_cond (v := ev s (.tmp 87)) (a := (fun s w => s68_p6 K B1 (s 0) (s 1) (s 5) (s 6) (s 7) (s 8) w) s w) (a' := (s68_p6_den K (fun s w => B1 [s 0, s 1, s 5, s 6, s 7, s 8] w)) s w) (b := (fun s w => s68_p2 K B1 (s 0) (s 1) (s 5) (s 6) (s 7) (s 8) w) s w) (b' := (s68_p2_den K (fun s w => B1 [s 0, s 1, s 5, s 6, s 7, s 8] w)) s w) (p := s68_p7 K B1 (s 0) (s 1) (s 5) (s 6) (s 7) (s 8) (s 87) w) (q := s68_p7_den K (fun s w => B1 [s 0, s 1, s 5, s 6, s 7, s 8] w) s w) ((fun s w h => s68_p6_ok K B1 s w @h) s w) ((fun s w h => s68_p2_ok K B1 s w @h) s w) (by kernel_rfl) (by kernel_rfl) @h
def s68_p8 (K : Value → World → Prop) (B1 : List Value → World → Prop) (t0 t1 t5 t6 t7 t8 : Value) (w : World) : Prop :=
  boI .geq t8 t1 (fun t70 w =>
  gd t70 true (fun K w => K t0 w) (fun t72 w =>
  gd t70 true (nck t72) (fun t73 w =>
  gd t70 true (fd 7 t73) (fun t74 w =>
  gd t70 true (ld1 t74) (fun t75 w =>
  gd t70 true (fun K w => K t6 w) (fun t76 w =>
  gd t70 true (ixs 1 t75 t76) (fun t77 w =>
  gd t70 true (ld1 t77) (fun t78 w =>
  gd t70 true (fun K w => K t5 w) (fun t79 w =>
  gd t70 true (boI .neq t78 t79) (fun t80 w =>
  pk t70 t80 (.bool false) (fun t81 w =>
  ifb t81
  (K (.bool false) w)
  (cl Try.prog 77 #[t0, t6] (fun t84 w =>
  boI .geq t8 t1 (fun t87 w =>
  s68_p7 K B1 t0 t1 t5 t84 t7 t8 t87 w) w) w)) w) w) w) w) w) w) w) w) w) w) w
def s68_p8_den (K : Value → World → Prop) (M1 : (Nat → Value) → World → Prop) : (Nat → Value) → World → Prop := denL Try.prog [(cd (Try.f68.body.getD .skip) [1, 1, 1, 1, 0, 1, 0, 0, 1, 0, 0, 1, 0, 0]), (cd (Try.f68.body.getD .skip) [1, 1, 1, 1, 0, 1, 0, 0, 1, 0, 0, 1, 0, 1]), (cd (Try.f68.body.getD .skip) [1, 1, 1, 1, 0, 1, 0, 0, 1, 0, 0, 1, 1, 0]), (cd (Try.f68.body.getD .skip) [1, 1, 1, 1, 0, 1, 0, 0, 1, 0, 0, 1, 1, 1, 0])] (s68_p7_den K M1) (fun i => (bif Nat.beq i 1 then (s68_p2_den K M1) else (bif Nat.beq i 0 then (s68_p1_den K) else (fun _ _ => False)))) (s68_R K)
theorem s68_p8_ok (K : Value → World → Prop) (B1 : List Value → World → Prop) (s : Nat → Value) (w : World) (h : s68_p8 K B1 (s 0) (s 1) (s 5) (s 6) (s 7) (s 8) w) : Tr (s68_p8_den K (fun s w => B1 [s 0, s 1, s 5, s 6, s 7, s 8] w) s w) :=
  tr_simple (P := Try.prog) (codes := [(cd (Try.f68.body.getD .skip) [1, 1, 1, 1, 0, 1, 0, 0, 1, 0, 0, 1, 0, 0]), (cd (Try.f68.body.getD .skip) [1, 1, 1, 1, 0, 1, 0, 0, 1, 0, 0, 1, 0, 1]), (cd (Try.f68.body.getD .skip) [1, 1, 1, 1, 0, 1, 0, 0, 1, 0, 0, 1, 1, 0]), (cd (Try.f68.body.getD .skip) [1, 1, 1, 1, 0, 1, 0, 0, 1, 0, 0, 1, 1, 1, 0])]) (N := (fun s w => s68_p7 K B1 (s 0) (s 1) (s 5) (s 6) (s 7) (s 8) (s 87) w)) (N' := (s68_p7_den K (fun s w => B1 [s 0, s 1, s 5, s 6, s 7, s 8] w))) (X := (fun i => (bif Nat.beq i 1 then (fun s w => s68_p2 K B1 (s 0) (s 1) (s 5) (s 6) (s 7) (s 8) w) else (bif Nat.beq i 0 then (fun s w => s68_p1 K w) else (fun _ _ => False))))) (X' := (fun i => (bif Nat.beq i 1 then (s68_p2_den K (fun s w => B1 [s 0, s 1, s 5, s 6, s 7, s 8] w)) else (bif Nat.beq i 0 then (s68_p1_den K) else (fun _ _ => False))))) (R := s68_R K) (s := s) (w := w) (p := s68_p8 K B1 (s 0) (s 1) (s 5) (s 6) (s 7) (s 8) w) (q := s68_p8_den K (fun s w => B1 [s 0, s 1, s 5, s 6, s 7, s 8] w) s w) (fun s w h => s68_p7_ok K B1 s w @h) (fun i => (tr_bif (fun s w h => s68_p2_ok K B1 s w @h) (tr_bif (fun s w h => s68_p1_ok K s w @h) tr_id))) (by kernel_rfl) (by kernel_rfl) @h
def s68_p9 (K : Value → World → Prop) (B1 : List Value → World → Prop) (B2 : List Value → World → Prop) (t0 t1 t5 t6 t7 t8 t9 : Value) (w : World) : Prop :=
  boI .lss t9 (.int .i64 3) (fun t42 w =>
  ifb t42
  (nck t0 (fun t46 w =>
  fd 8 t46 (fun t47 w =>
  ld1 t47 (fun t48 w =>
  boI .mul t6 (.int .i64 3) (fun t50 w =>
  boI .add t50 t9 (fun t52 w =>
  ixs 1 t48 t52 (fun t53 w =>
  ld1 t53 (fun t54 w =>
  boI .lss t54 (.int .i64 0) (fun t55 w =>
  ifb t55
  (K (.bool false) w)
  (nck t0 (fun t58 w =>
  fd 8 t58 (fun t59 w =>
  ld1 t59 (fun t60 w =>
  boI .mul t6 (.int .i64 3) (fun t62 w =>
  boI .add t62 t9 (fun t64 w =>
  ixs 1 t60 t64 (fun t65 w =>
  ld1 t65 (fun t66 w =>
  boI .add t5 t66 (fun t67 w =>
  boI .add t9 (.int .i64 1) (fun t44 w =>
  B2 [t0, t1, t67, t6, t7, t8, t44] w) w) w) w) w) w) w) w) w) w)) w) w) w) w) w) w) w) w)
  (s68_p8 K B1 t0 t1 t5 t6 t7 t8 w)) w
def s68_p9_den (K : Value → World → Prop) (M1 : (Nat → Value) → World → Prop) (M2 : (Nat → Value) → World → Prop) : (Nat → Value) → World → Prop := denL Try.prog [(cd (Try.f68.body.getD .skip) [1, 1, 1, 1, 0, 1, 0, 0, 1, 0, 0, 0, 1, 0, 0, 0, 0]), (cd (Try.f68.body.getD .skip) [1, 1, 1, 1, 0, 1, 0, 0, 1, 0, 0, 0, 1, 0, 0, 0, 1]), (cd (Try.f68.body.getD .skip) [1, 1, 1, 1, 0, 1, 0, 0, 1, 0, 0, 0, 1, 0, 0, 1, 0]), (cd (Try.f68.body.getD .skip) [1, 1, 1, 1, 0, 1, 0, 0, 1, 0, 0, 0, 1, 0, 0, 1, 1])] M2 (fun i => (bif Nat.beq i 2 then (s68_p8_den K M1) else (bif Nat.beq i 1 then (s68_p2_den K M1) else (bif Nat.beq i 0 then (s68_p1_den K) else (fun _ _ => False))))) (s68_R K)
theorem s68_p9_ok (K : Value → World → Prop) (B1 : List Value → World → Prop) (B2 : List Value → World → Prop) (s : Nat → Value) (w : World) (h : s68_p9 K B1 B2 (s 0) (s 1) (s 5) (s 6) (s 7) (s 8) (s 9) w) : Tr (s68_p9_den K (fun s w => B1 [s 0, s 1, s 5, s 6, s 7, s 8] w) (fun s w => B2 [s 0, s 1, s 5, s 6, s 7, s 8, s 9] w) s w) :=
  tr_simple (P := Try.prog) (codes := [(cd (Try.f68.body.getD .skip) [1, 1, 1, 1, 0, 1, 0, 0, 1, 0, 0, 0, 1, 0, 0, 0, 0]), (cd (Try.f68.body.getD .skip) [1, 1, 1, 1, 0, 1, 0, 0, 1, 0, 0, 0, 1, 0, 0, 0, 1]), (cd (Try.f68.body.getD .skip) [1, 1, 1, 1, 0, 1, 0, 0, 1, 0, 0, 0, 1, 0, 0, 1, 0]), (cd (Try.f68.body.getD .skip) [1, 1, 1, 1, 0, 1, 0, 0, 1, 0, 0, 0, 1, 0, 0, 1, 1])]) (N := (fun s w => B2 [s 0, s 1, s 5, s 6, s 7, s 8, s 9] w)) (N' := (fun s w => B2 [s 0, s 1, s 5, s 6, s 7, s 8, s 9] w)) (X := (fun i => (bif Nat.beq i 2 then (fun s w => s68_p8 K B1 (s 0) (s 1) (s 5) (s 6) (s 7) (s 8) w) else (bif Nat.beq i 1 then (fun s w => s68_p2 K B1 (s 0) (s 1) (s 5) (s 6) (s 7) (s 8) w) else (bif Nat.beq i 0 then (fun s w => s68_p1 K w) else (fun _ _ => False)))))) (X' := (fun i => (bif Nat.beq i 2 then (s68_p8_den K (fun s w => B1 [s 0, s 1, s 5, s 6, s 7, s 8] w)) else (bif Nat.beq i 1 then (s68_p2_den K (fun s w => B1 [s 0, s 1, s 5, s 6, s 7, s 8] w)) else (bif Nat.beq i 0 then (s68_p1_den K) else (fun _ _ => False)))))) (R := s68_R K) (s := s) (w := w) (p := s68_p9 K B1 B2 (s 0) (s 1) (s 5) (s 6) (s 7) (s 8) (s 9) w) (q := s68_p9_den K (fun s w => B1 [s 0, s 1, s 5, s 6, s 7, s 8] w) (fun s w => B2 [s 0, s 1, s 5, s 6, s 7, s 8, s 9] w) s w) tr_id (fun i => (tr_bif (fun s w h => s68_p8_ok K B1 s w @h) (tr_bif (fun s w h => s68_p2_ok K B1 s w @h) (tr_bif (fun s w h => s68_p1_ok K s w @h) tr_id)))) (by kernel_rfl) (by kernel_rfl) @h
def s68_p10_F (K : Value → World → Prop) (B1 : List Value → World → Prop) (B2 : List Value → World → Prop) (l : List Value) (w : World) : Prop :=
  match l with
  | [t0, t1, t5, t6, t7, t8, t9] => s68_p9 K B1 B2 t0 t1 t5 t6 t7 t8 t9 w
  | _ => False
theorem s68_p10_Fe {K : Value → World → Prop} {B1 : List Value → World → Prop} {B2 : List Value → World → Prop} {t0 t1 t5 t6 t7 t8 t9 : Value} {w : World} : s68_p10_F K B1 B2 [t0, t1, t5, t6, t7, t8, t9] w = s68_p9 K B1 B2 t0 t1 t5 t6 t7 t8 t9 w := by kernel_rfl
def s68_p10 (K : Value → World → Prop) (B1 : List Value → World → Prop) (t0 t1 t5 t6 t7 t8 t9 : Value) (w : World) : Prop :=
  LoopL (s68_p10_F K B1) [t0, t1, t5, t6, t7, t8, t9] w
def s68_p10_den (K : Value → World → Prop) (M1 : (Nat → Value) → World → Prop) : (Nat → Value) → World → Prop := fun s w => LoopP (fun M2 s w => s68_p9_den K M1 M2 s w) s w
theorem s68_p10_ok (K : Value → World → Prop) (B1 : List Value → World → Prop) (s : Nat → Value) (w : World) (h : s68_p10 K B1 (s 0) (s 1) (s 5) (s 6) (s 7) (s 8) (s 9) w) : Tr (s68_p10_den K (fun s w => B1 [s 0, s 1, s 5, s 6, s 7, s 8] w) s w) :=
  tr_loop (G := fun N' s w => s68_p9_den K (fun s w => B1 [s 0, s 1, s 5, s 6, s 7, s 8] w) N' s w) (F := s68_p10_F K B1) (sel := fun s => [s 0, s 1, s 5, s 6, s 7, s 8, s 9]) (s := s) (w := w) (p := s68_p10 K B1 (s 0) (s 1) (s 5) (s 6) (s 7) (s 8) (s 9) w) (q := s68_p10_den K (fun s w => B1 [s 0, s 1, s 5, s 6, s 7, s 8] w) s w) (fun B s w h => s68_p9_ok K B1 B s w @h) (by kernel_rfl) (by kernel_rfl) @h
def s68_p11 (K : Value → World → Prop) (B1 : List Value → World → Prop) (t0 t1 t5 t6 t7 t8 : Value) (w : World) : Prop :=
  s68_p10 K B1 t0 t1 t5 t6 t7 t8 (.int .i64 0) w
def s68_p11_den (K : Value → World → Prop) (M1 : (Nat → Value) → World → Prop) : (Nat → Value) → World → Prop := denL Try.prog [(cd (Try.f68.body.getD .skip) [1, 1, 1, 1, 0, 1, 0, 0, 1, 0, 0, 0, 0])] (s68_p10_den K M1) (fun i => (bif Nat.beq i 1 then (s68_p2_den K M1) else (bif Nat.beq i 0 then (s68_p1_den K) else (fun _ _ => False)))) (s68_R K)
theorem s68_p11_ok (K : Value → World → Prop) (B1 : List Value → World → Prop) (s : Nat → Value) (w : World) (h : s68_p11 K B1 (s 0) (s 1) (s 5) (s 6) (s 7) (s 8) w) : Tr (s68_p11_den K (fun s w => B1 [s 0, s 1, s 5, s 6, s 7, s 8] w) s w) :=
  tr_simple (P := Try.prog) (codes := [(cd (Try.f68.body.getD .skip) [1, 1, 1, 1, 0, 1, 0, 0, 1, 0, 0, 0, 0])]) (N := (fun s w => s68_p10 K B1 (s 0) (s 1) (s 5) (s 6) (s 7) (s 8) (s 9) w)) (N' := (s68_p10_den K (fun s w => B1 [s 0, s 1, s 5, s 6, s 7, s 8] w))) (X := (fun i => (bif Nat.beq i 1 then (fun s w => s68_p2 K B1 (s 0) (s 1) (s 5) (s 6) (s 7) (s 8) w) else (bif Nat.beq i 0 then (fun s w => s68_p1 K w) else (fun _ _ => False))))) (X' := (fun i => (bif Nat.beq i 1 then (s68_p2_den K (fun s w => B1 [s 0, s 1, s 5, s 6, s 7, s 8] w)) else (bif Nat.beq i 0 then (s68_p1_den K) else (fun _ _ => False))))) (R := s68_R K) (s := s) (w := w) (p := s68_p11 K B1 (s 0) (s 1) (s 5) (s 6) (s 7) (s 8) w) (q := s68_p11_den K (fun s w => B1 [s 0, s 1, s 5, s 6, s 7, s 8] w) s w) (fun s w h => s68_p10_ok K B1 s w @h) (fun i => (tr_bif (fun s w h => s68_p2_ok K B1 s w @h) (tr_bif (fun s w h => s68_p1_ok K s w @h) tr_id))) (by kernel_rfl) (by kernel_rfl) @h
def s68_p12 (K : Value → World → Prop) (B1 : List Value → World → Prop) (t0 t1 t5 t6 t7 t8 t38 : Value) (w : World) : Prop :=
  ifb t38
  (s68_p11 K B1 t0 t1 t5 t6 t7 t8 w)
  (s68_p1 K w)
def s68_p12_den (K : Value → World → Prop) (M1 : (Nat → Value) → World → Prop) : (Nat → Value) → World → Prop := denL Try.prog [(cd (Try.f68.body.getD .skip) [1, 1, 1, 1, 0, 1, 0, 0, 0, 1])] (s68_p11_den K M1) (fun i => (bif Nat.beq i 0 then (s68_p1_den K) else (fun _ _ => False))) (s68_R K)
theorem s68_p12_ok (K : Value → World → Prop) (B1 : List Value → World → Prop) (s : Nat → Value) (w : World) (h : s68_p12 K B1 (s 0) (s 1) (s 5) (s 6) (s 7) (s 8) (s 38) w) : Tr (s68_p12_den K (fun s w => B1 [s 0, s 1, s 5, s 6, s 7, s 8] w) s w) :=
  tr_simple (P := Try.prog) (codes := [(cd (Try.f68.body.getD .skip) [1, 1, 1, 1, 0, 1, 0, 0, 0, 1])]) (N := (fun s w => s68_p11 K B1 (s 0) (s 1) (s 5) (s 6) (s 7) (s 8) w)) (N' := (s68_p11_den K (fun s w => B1 [s 0, s 1, s 5, s 6, s 7, s 8] w))) (X := (fun i => (bif Nat.beq i 0 then (fun s w => s68_p1 K w) else (fun _ _ => False)))) (X' := (fun i => (bif Nat.beq i 0 then (s68_p1_den K) else (fun _ _ => False)))) (R := s68_R K) (s := s) (w := w) (p := s68_p12 K B1 (s 0) (s 1) (s 5) (s 6) (s 7) (s 8) (s 38) w) (q := s68_p12_den K (fun s w => B1 [s 0, s 1, s 5, s 6, s 7, s 8] w) s w) (fun s w h => s68_p11_ok K B1 s w @h) (fun i => (tr_bif (fun s w h => s68_p1_ok K s w @h) tr_id)) (by kernel_rfl) (by kernel_rfl) @h
def s68_p13_d (K : Value → World → Prop) (B1 : List Value → World → Prop) (t0 t1 t5 t6 t7 t8 : Value) (w0 w : World) : Prop :=
  nck t0 (fun t29 _ =>
  fd 5 t29 (fun t30 _ =>
  ld1 t30 (fun t31 _ =>
  boI .sub t1 t31 (fun t32 _ =>
  nck t0 (fun t34 _ =>
  fd 6 t34 (fun t35 _ =>
  ld1 t35 (fun t36 _ =>
  boI .add t32 t36 (fun t37 _ =>
  boI .lss t8 t37 (fun t38 _ =>
  s68_p12 K B1 t0 t1 t5 t6 t7 t8 t38 w) w0) w0) w0) w0) w0) w0) w0) w0) w0
def s68_p13 (K : Value → World → Prop) (B1 : List Value → World → Prop) (t0 t1 t5 t6 t7 t8 : Value) (w : World) : Prop := s68_p13_d K B1 t0 t1 t5 t6 t7 t8 (drw w) (drw w)
def s68_p13_den (K : Value → World → Prop) (M1 : (Nat → Value) → World → Prop) : (Nat → Value) → World → Prop := denL Try.prog [(cd (Try.f68.body.getD .skip) [1, 1, 1, 1, 0, 1, 0, 0, 0, 0])] (s68_p12_den K M1) (fun i => (bif Nat.beq i 0 then (s68_p1_den K) else (fun _ _ => False))) (s68_R K)
theorem s68_p13_ok (K : Value → World → Prop) (B1 : List Value → World → Prop) (s : Nat → Value) (w : World) (h : s68_p13 K B1 (s 0) (s 1) (s 5) (s 6) (s 7) (s 8) w) : Tr (s68_p13_den K (fun s w => B1 [s 0, s 1, s 5, s 6, s 7, s 8] w) s w) :=
  tr_draw (P := Try.prog) (ops := (ro (cd (Try.f68.body.getD .skip) [1, 1, 1, 1, 0, 1, 0, 0, 0, 0]))) (ms := [0, 0, 0, 4, 12, 28, 62, 0, 128, 384, 896, 2046, 4095]) (cs := [0, 1, 2, 3, 4, 5, 6, 7, 8, 9, 10, 11, 12]) (N := (fun s w => s68_p12 K B1 (s 0) (s 1) (s 5) (s 6) (s 7) (s 8) (s 38) w)) (N' := (s68_p12_den K (fun s w => B1 [s 0, s 1, s 5, s 6, s 7, s 8] w))) (s := s) (w := w) (p := s68_p13 K B1 (s 0) (s 1) (s 5) (s 6) (s 7) (s 8) w) (q := s68_p13_den K (fun s w => B1 [s 0, s 1, s 5, s 6, s 7, s 8] w) s w) (by kernel_rfl) (by kernel_rfl) (fun s w h => s68_p12_ok K B1 s w @h) (by kernel_rfl) (by kernel_rfl) @h
def s68_p14_F (K : Value → World → Prop) (B1 : List Value → World → Prop) (l : List Value) (w : World) : Prop :=
  match l with
  | [t0, t1, t5, t6, t7, t8] => s68_p13 K B1 t0 t1 t5 t6 t7 t8 w
  | _ => False
theorem s68_p14_Fe {K : Value → World → Prop} {B1 : List Value → World → Prop} {t0 t1 t5 t6 t7 t8 : Value} {w : World} : s68_p14_F K B1 [t0, t1, t5, t6, t7, t8] w = s68_p13 K B1 t0 t1 t5 t6 t7 t8 w := by kernel_rfl
def s68_p14 (K : Value → World → Prop) (t0 t1 t5 t6 t7 t8 : Value) (w : World) : Prop :=
  LoopL (s68_p14_F K) [t0, t1, t5, t6, t7, t8] w
def s68_p14_den (K : Value → World → Prop) : (Nat → Value) → World → Prop := fun s w => LoopP (fun M1 s w => s68_p13_den K M1 s w) s w
theorem s68_p14_ok (K : Value → World → Prop) (s : Nat → Value) (w : World) (h : s68_p14 K (s 0) (s 1) (s 5) (s 6) (s 7) (s 8) w) : Tr (s68_p14_den K s w) :=
  tr_loop (G := fun N' s w => s68_p13_den K N' s w) (F := s68_p14_F K) (sel := fun s => [s 0, s 1, s 5, s 6, s 7, s 8]) (s := s) (w := w) (p := s68_p14 K (s 0) (s 1) (s 5) (s 6) (s 7) (s 8) w) (q := s68_p14_den K s w) (fun B s w h => s68_p13_ok K B s w @h) (by kernel_rfl) (by kernel_rfl) @h
def s68_p15 (K : Value → World → Prop) (t0 t1 : Value) (w : World) : Prop :=
  nck t0 (fun t14 w =>
  fd 5 t14 (fun t15 w =>
  ld1 t15 (fun t16 w =>
  boI .sub t1 t16 (fun t17 w =>
  cl Try.prog 64 #[t0, t17] (fun t18 w =>
  nck t0 (fun t22 w =>
  fd 5 t22 (fun t23 w =>
  ld1 t23 (fun t24 w =>
  boI .sub t1 t24 (fun t25 w =>
  s68_p14 K t0 t1 (.int .i64 0) t18 t18 t25 w) w) w) w) w) w) w) w) w) w
def s68_p15_den (K : Value → World → Prop) : (Nat → Value) → World → Prop := denL Try.prog [(cd (Try.f68.body.getD .skip) [0]), (cd (Try.f68.body.getD .skip) [1, 0]), (cd (Try.f68.body.getD .skip) [1, 1, 0]), (cd (Try.f68.body.getD .skip) [1, 1, 1, 0]), (cd (Try.f68.body.getD .skip) [1, 1, 1, 1, 0, 0])] (s68_p14_den K) (fun i => (fun _ _ => False)) (s68_R K)
theorem s68_p15_ok (K : Value → World → Prop) (s : Nat → Value) (w : World) (h : s68_p15 K (s 0) (s 1) w) : Tr (s68_p15_den K s w) :=
  tr_simple (P := Try.prog) (codes := [(cd (Try.f68.body.getD .skip) [0]), (cd (Try.f68.body.getD .skip) [1, 0]), (cd (Try.f68.body.getD .skip) [1, 1, 0]), (cd (Try.f68.body.getD .skip) [1, 1, 1, 0]), (cd (Try.f68.body.getD .skip) [1, 1, 1, 1, 0, 0])]) (N := (fun s w => s68_p14 K (s 0) (s 1) (s 5) (s 6) (s 7) (s 8) w)) (N' := (s68_p14_den K)) (X := (fun i => (fun _ _ => False))) (X' := (fun i => (fun _ _ => False))) (R := s68_R K) (s := s) (w := w) (p := s68_p15 K (s 0) (s 1) w) (q := s68_p15_den K s w) (fun s w h => s68_p14_ok K s w @h) (fun i => tr_id) (by kernel_rfl) (by kernel_rfl) @h
/-- the call, from the text -/
theorem c68 (t0 t1 : Value) {K : Value → World → Prop} {w : World} (h : s68_p15 K t0 t1 w) : cl Try.prog 68 #[t0, t1] K w :=
  calls_of_tr (c := (Try.f68.body.getD .skip)) (fn := Try.f68) (q := s68_p15_den K (st0 #[t0, t1]) w) Try.func68 (by kernel_rfl) (by kernel_rfl) (Nat.le_of_ble_eq_true (by kernel_rfl)) (by kernel_rfl) (by kernel_rfl) (s68_p15_ok K (st0 #[t0, t1]) w @h)

/-! ### function 69 : e2e.slots.Valid -/
def s69_R (K : Value → World → Prop) (s : Nat → Value) (w : World) : Prop := retv Try.prog s Try.f69.results.toList (fun vs => K (pack vs) w) w
def s69_p1 (K : Value → World → Prop) (w : World) : Prop :=
  K (.bool true) w
def s69_p1_den (K : Value → World → Prop) : (Nat → Value) → World → Prop := denL Try.prog [(cd (Try.f69.body.getD .skip) [1, 1, 1, 1, 1, 0]), (cd (Try.f69.body.getD .skip) [1, 1, 1, 1, 1, 1])] (fun _ _ => False) (fun i => (fun _ _ => False)) (s69_R K)
theorem s69_p1_ok (K : Value → World → Prop) (s : Nat → Value) (w : World) (h : s69_p1 K w) : Tr (s69_p1_den K s w) :=
  tr_simple (P := Try.prog) (codes := [(cd (Try.f69.body.getD .skip) [1, 1, 1, 1, 1, 0]), (cd (Try.f69.body.getD .skip) [1, 1, 1, 1, 1, 1])]) (N := (fun _ _ => False)) (N' := (fun _ _ => False)) (X := (fun i => (fun _ _ => False))) (X' := (fun i => (fun _ _ => False))) (R := s69_R K) (s := s) (w := w) (p := s69_p1 K w) (q := s69_p1_den K s w) tr_id (fun i => tr_id) (by kernel_rfl) (by kernel_rfl) @h
def s69_p2 (K : Value → World → Prop) (B1 : List Value → World → Prop) (t34 t35 t36 : Value) (w : World) : Prop :=
  boI .add t36 (.int .i64 1) (fun t68 w =>
  B1 [t34, t35, t68] w) w
def s69_p2_den (K : Value → World → Prop) (M1 : (Nat → Value) → World → Prop) : (Nat → Value) → World → Prop := denL Try.prog [(cd (Try.f69.body.getD .skip) [1, 1, 1, 1, 0, 1, 0, 0, 1, 1, 1])] M1 (fun i => (bif Nat.beq i 0 then (s69_p1_den K) else (fun _ _ => False))) (s69_R K)
theorem s69_p2_ok (K : Value → World → Prop) (B1 : List Value → World → Prop) (s : Nat → Value) (w : World) (h : s69_p2 K B1 (s 34) (s 35) (s 36) w) : Tr (s69_p2_den K (fun s w => B1 [s 34, s 35, s 36] w) s w) :=
  tr_simple (P := Try.prog) (codes := [(cd (Try.f69.body.getD .skip) [1, 1, 1, 1, 0, 1, 0, 0, 1, 1, 1])]) (N := (fun s w => B1 [s 34, s 35, s 36] w)) (N' := (fun s w => B1 [s 34, s 35, s 36] w)) (X := (fun i => (bif Nat.beq i 0 then (fun s w => s69_p1 K w) else (fun _ _ => False)))) (X' := (fun i => (bif Nat.beq i 0 then (s69_p1_den K) else (fun _ _ => False)))) (R := s69_R K) (s := s) (w := w) (p := s69_p2 K B1 (s 34) (s 35) (s 36) w) (q := s69_p2_den K (fun s w => B1 [s 34, s 35, s 36] w) s w) tr_id (fun i => (tr_bif (fun s w h => s69_p1_ok K s w @h) tr_id)) (by kernel_rfl) (by kernel_rfl) @h
def s69_p3 (K : Value → World → Prop) (B1 : List Value → World → Prop) (B2 : List Value → World → Prop) (t34 t35 t36 t57 t58 : Value) (w : World) : Prop :=
  boI .lss t58 (.int .i64 3) (fun t59 w =>
  ifb t59
  (iv Try.prog 57 t57 t58 (fun t60 w =>
  boI .lss t60 (.int .i64 0) (fun t62 w =>
  gd t62 false (fun K w => K t60 w) (fun t64 w =>
  gd t62 false (boI .gtr t64 (.int .i64 1073741824)) (fun t65 w =>
  pk t62 (.bool true) t65 (fun t66 w =>
  ifb t66
  (K (.bool false) w)
  (boI .add t58 (.int .i64 1) (fun t67 w =>
  B2 [t34, t35, t36, t57, t67] w) w)) w) w) w) w) w)
  (s69_p2 K B1 t34 t35 t36 w)) w
def s69_p3_den (K : Value → World → Prop) (M1 : (Nat → Value) → World → Prop) (M2 : (Nat → Value) → World → Prop) : (Nat → Value) → World → Prop := denL Try.prog [(cd (Try.f69.body.getD .skip) [1, 1, 1, 1, 0, 1, 0, 0, 1, 1, 0, 0, 1, 1, 1, 1, 0, 0, 0]), (cd (Try.f69.body.getD .skip) [1, 1, 1, 1, 0, 1, 0, 0, 1, 1, 0, 0, 1, 1, 1, 1, 0, 0, 1, 0]), (cd (Try.f69.body.getD .skip) [1, 1, 1, 1, 0, 1, 0, 0, 1, 1, 0, 0, 1, 1, 1, 1, 0, 0, 1, 1, 0]), (cd (Try.f69.body.getD .skip) [1, 1, 1, 1, 0, 1, 0, 0, 1, 1, 0, 0, 1, 1, 1, 1, 0, 0, 1, 1, 1])] M2 (fun i => (bif Nat.beq i 2 then (s69_p2_den K M1) else (bif Nat.beq i 1 then (s69_p2_den K M1) else (bif Nat.beq i 0 then (s69_p1_den K) else (fun _ _ => False))))) (s69_R K)
theorem s69_p3_ok (K : Value → World → Prop) (B1 : List Value → World → Prop) (B2 : List Value → World → Prop) (s : Nat → Value) (w : World) (h : s69_p3 K B1 B2 (s 34) (s 35) (s 36) (s 57) (s 58) w) : Tr (s69_p3_den K (fun s w => B1 [s 34, s 35, s 36] w) (fun s w => B2 [s 34, s 35, s 36, s 57, s 58] w) s w) :=
  tr_simple (P := Try.prog) (codes := [(cd (Try.f69.body.getD .skip) [1, 1, 1, 1, 0, 1, 0, 0, 1, 1, 0, 0, 1, 1, 1, 1, 0, 0, 0]), (cd (Try.f69.body.getD .skip) [1, 1, 1, 1, 0, 1, 0, 0, 1, 1, 0, 0, 1, 1, 1, 1, 0, 0, 1, 0]), (cd (Try.f69.body.getD .skip) [1, 1, 1, 1, 0, 1, 0, 0, 1, 1, 0, 0, 1, 1, 1, 1, 0, 0, 1, 1, 0]), (cd (Try.f69.body.getD .skip) [1, 1, 1, 1, 0, 1, 0, 0, 1, 1, 0, 0, 1, 1, 1, 1, 0, 0, 1, 1, 1])]) (N := (fun s w => B2 [s 34, s 35, s 36, s 57, s 58] w)) (N' := (fun s w => B2 [s 34, s 35, s 36, s 57, s 58] w)) (X := (fun i => (bif Nat.beq i 2 then (fun s w => s69_p2 K B1 (s 34) (s 35) (s 36) w) else (bif Nat.beq i 1 then (fun s w => s69_p2 K B1 (s 34) (s 35) (s 36) w) else (bif Nat.beq i 0 then (fun s w => s69_p1 K w) else (fun _ _ => False)))))) (X' := (fun i => (bif Nat.beq i 2 then (s69_p2_den K (fun s w => B1 [s 34, s 35, s 36] w)) else (bif Nat.beq i 1 then (s69_p2_den K (fun s w => B1 [s 34, s 35, s 36] w)) else (bif Nat.beq i 0 then (s69_p1_den K) else (fun _ _ => False)))))) (R := s69_R K) (s := s) (w := w) (p := s69_p3 K B1 B2 (s 34) (s 35) (s 36) (s 57) (s 58) w) (q := s69_p3_den K (fun s w => B1 [s 34, s 35, s 36] w) (fun s w => B2 [s 34, s 35, s 36, s 57, s 58] w) s w) tr_id (fun i => (tr_bif (fun s w h => s69_p2_ok K B1 s w @h) (tr_bif (fun s w h => s69_p2_ok K B1 s w @h) (tr_bif (fun s w h => s69_p1_ok K s w @h) tr_id)))) (by kernel_rfl) (by kernel_rfl) @h
def s69_p4_F (K : Value → World → Prop) (B1 : List Value → World → Prop) (B2 : List Value → World → Prop) (l : List Value) (w : World) : Prop :=
  match l with
  | [t34, t35, t36, t57, t58] => s69_p3 K B1 B2 t34 t35 t36 t57 t58 w
  | _ => False
theorem s69_p4_Fe {K : Value → World → Prop} {B1 : List Value → World → Prop} {B2 : List Value → World → Prop} {t34 t35 t36 t57 t58 : Value} {w : World} : s69_p4_F K B1 B2 [t34, t35, t36, t57, t58] w = s69_p3 K B1 B2 t34 t35 t36 t57 t58 w := by kernel_rfl
def s69_p4 (K : Value → World → Prop) (B1 : List Value → World → Prop) (t34 t35 t36 t57 t58 : Value) (w : World) : Prop :=
  LoopL (s69_p4_F K B1) [t34, t35, t36, t57, t58] w
def s69_p4_den (K : Value → World → Prop) (M1 : (Nat → Value) → World → Prop) : (Nat → Value) → World → Prop := fun s w => LoopP (fun M2 s w => s69_p3_den K M1 M2 s w) s w
theorem s69_p4_ok (K : Value → World → Prop) (B1 : List Value → World → Prop) (s : Nat → Value) (w : World) (h : s69_p4 K B1 (s 34) (s 35) (s 36) (s 57) (s 58) w) : Tr (s69_p4_den K (fun s w => B1 [s 34, s 35, s 36] w) s w) :=
  tr_loop (G := fun N' s w => s69_p3_den K (fun s w => B1 [s 34, s 35, s 36] w) N' s w) (F := s69_p4_F K B1) (sel := fun s => [s 34, s 35, s 36, s 57, s 58]) (s := s) (w := w) (p := s69_p4 K B1 (s 34) (s 35) (s 36) (s 57) (s 58) w) (q := s69_p4_den K (fun s w => B1 [s 34, s 35, s 36] w) s w) (fun B s w h => s69_p3_ok K B1 B s w @h) (by kernel_rfl) (by kernel_rfl) @h
def s69_p5 (K : Value → World → Prop) (B1 : List Value → World → Prop) (t34 t35 t36 : Value) (w : World) : Prop :=
  ixs 5 t34 t36 (fun t38 w =>
  ldn 5 t38 (fun t39 w =>
  nw 59 #[(.int .i64 0), (.int .i64 0), (.int .i64 0), (.int .i64 0), (.int .i64 0)] (fun t4 w =>
  stn 5 t4 t39 (fun w =>
  fd 0 t4 (fun t40 w =>
  ld1 t40 (fun t41 w =>
  boI .lss t41 (.int .i64 1) (fun t42 w =>
  gd t42 false (fd 0 t4) (fun t44 w =>
  gd t42 false (ld1 t44) (fun t45 w =>
  gd t42 false (boI .gtr t45 (.int .i64 1073741824)) (fun t46 w =>
  pk t42 (.bool true) t46 (fun t47 w =>
  ifb t47
  (K (.bool false) w)
  (fd 1 t4 (fun t48 w =>
  ld1 t48 (fun t49 w =>
  boI .lss t49 (.int .i64 1) (fun t50 w =>
  gd t50 false (fd 1 t4) (fun t52 w =>
  gd t50 false (ld1 t52) (fun t53 w =>
  gd t50 false (boI .gtr t53 (.int .i64 65536)) (fun t54 w =>
  pk t50 (.bool true) t54 (fun t55 w =>
  ifb t55
  (K (.bool false) w)
  (fd 2 t4 (fun t56 w =>
  ldn 3 t56 (fun t57 w =>
  s69_p4 K B1 t34 t35 t36 t57 (.int .i64 0) w) w) w)) w) w) w) w) w) w) w)) w) w) w) w) w) w) w) w) w) w) w
def s69_p5_den (K : Value → World → Prop) (M1 : (Nat → Value) → World → Prop) : (Nat → Value) → World → Prop := denL Try.prog [(cd (Try.f69.body.getD .skip) [1, 1, 1, 1, 0, 1, 0, 0, 1, 1, 0, 0, 0]), (cd (Try.f69.body.getD .skip) [1, 1, 1, 1, 0, 1, 0, 0, 1, 1, 0, 0, 1, 0, 0]), (cd (Try.f69.body.getD .skip) [1, 1, 1, 1, 0, 1, 0, 0, 1, 1, 0, 0, 1, 0, 1]), (cd (Try.f69.body.getD .skip) [1, 1, 1, 1, 0, 1, 0, 0, 1, 1, 0, 0, 1, 1, 0, 0]), (cd (Try.f69.body.getD .skip) [1, 1, 1, 1, 0, 1, 0, 0, 1, 1, 0, 0, 1, 1, 0, 1]), (cd (Try.f69.body.getD .skip) [1, 1, 1, 1, 0, 1, 0, 0, 1, 1, 0, 0, 1, 1, 1, 0])] (s69_p4_den K M1) (fun i => (bif Nat.beq i 1 then (s69_p2_den K M1) else (bif Nat.beq i 0 then (s69_p1_den K) else (fun _ _ => False)))) (s69_R K)
theorem s69_p5_ok (K : Value → World → Prop) (B1 : List Value → World → Prop) (s : Nat → Value) (w : World) (h : s69_p5 K B1 (s 34) (s 35) (s 36) w) : Tr (s69_p5_den K (fun s w => B1 [s 34, s 35, s 36] w) s w) :=
  tr_simple (P := Try.prog) (codes := [(cd (Try.f69.body.getD .skip) [1, 1, 1, 1, 0, 1, 0, 0, 1, 1, 0, 0, 0]), (cd (Try.f69.body.getD .skip) [1, 1, 1, 1, 0, 1, 0, 0, 1, 1, 0, 0, 1, 0, 0]), (cd (Try.f69.body.getD .skip) [1, 1, 1, 1, 0, 1, 0, 0, 1, 1, 0, 0, 1, 0, 1]), (cd (Try.f69.body.getD .skip) [1, 1, 1, 1, 0, 1, 0, 0, 1, 1, 0, 0, 1, 1, 0, 0]), (cd (Try.f69.body.getD .skip) [1, 1, 1, 1, 0, 1, 0, 0, 1, 1, 0, 0, 1, 1, 0, 1]), (cd (Try.f69.body.getD .skip) [1, 1, 1, 1, 0, 1, 0, 0, 1, 1, 0, 0, 1, 1, 1, 0])]) (N := (fun s w => s69_p4 K B1 (s 34) (s 35) (s 36) (s 57) (s 58) w)) (N' := (s69_p4_den K (fun s w => B1 [s 34, s 35, s 36] w))) (X := (fun i => (bif Nat.beq i 1 then (fun s w => s69_p2 K B1 (s 34) (s 35) (s 36) w) else (bif Nat.beq i 0 then (fun s w => s69_p1 K w) else (fun _ _ => False))))) (X' := (fun i => (bif Nat.beq i 1 then (s69_p2_den K (fun s w => B1 [s 34, s 35, s 36] w)) else (bif Nat.beq i 0 then (s69_p1_den K) else (fun _ _ => False))))) (R := s69_R K) (s := s) (w := w) (p := s69_p5 K B1 (s 34) (s 35) (s 36) w) (q := s69_p5_den K (fun s w => B1 [s 34, s 35, s 36] w) s w) (fun s w h => s69_p4_ok K B1 s w @h) (fun i => (tr_bif (fun s w h => s69_p2_ok K B1 s w @h) (tr_bif (fun s w h => s69_p1_ok K s w @h) tr_id))) (by kernel_rfl) (by kernel_rfl) @h
def s69_p6 (K : Value → World → Prop) (B1 : List Value → World → Prop) (t34 t35 t36 : Value) (w : World) : Prop :=
  boI .lss t36 t35 (fun t37 w =>
  ifb t37
  (s69_p5 K B1 t34 t35 t36 w)
  (s69_p1 K w)) w
def s69_p6_den (K : Value → World → Prop) (M1 : (Nat → Value) → World → Prop) : (Nat → Value) → World → Prop := denL Try.prog [(cd (Try.f69.body.getD .skip) [1, 1, 1, 1, 0, 1, 0, 0, 0]), (cd (Try.f69.body.getD .skip) [1, 1, 1, 1, 0, 1, 0, 0, 1, 0])] (s69_p5_den K M1) (fun i => (bif Nat.beq i 0 then (s69_p1_den K) else (fun _ _ => False))) (s69_R K)
theorem s69_p6_ok (K : Value → World → Prop) (B1 : List Value → World → Prop) (s : Nat → Value) (w : World) (h : s69_p6 K B1 (s 34) (s 35) (s 36) w) : Tr (s69_p6_den K (fun s w => B1 [s 34, s 35, s 36] w) s w) :=
  tr_simple (P := Try.prog) (codes := [(cd (Try.f69.body.getD .skip) [1, 1, 1, 1, 0, 1, 0, 0, 0]), (cd (Try.f69.body.getD .skip) [1, 1, 1, 1, 0, 1, 0, 0, 1, 0])]) (N := (fun s w => s69_p5 K B1 (s 34) (s 35) (s 36) w)) (N' := (s69_p5_den K (fun s w => B1 [s 34, s 35, s 36] w))) (X := (fun i => (bif Nat.beq i 0 then (fun s w => s69_p1 K w) else (fun _ _ => False)))) (X' := (fun i => (bif Nat.beq i 0 then (s69_p1_den K) else (fun _ _ => False)))) (R := s69_R K) (s := s) (w := w) (p := s69_p6 K B1 (s 34) (s 35) (s 36) w) (q := s69_p6_den K (fun s w => B1 [s 34, s 35, s 36] w) s w) (fun s w h => s69_p5_ok K B1 s w @h) (fun i => (tr_bif (fun s w h => s69_p1_ok K s w @h) tr_id)) (by kernel_rfl) (by kernel_rfl) @h
def s69_p7_F (K : Value → World → Prop) (B1 : List Value → World → Prop) (l : List Value) (w : World) : Prop :=
  match l with
  | [t34, t35, t36] => s69_p6 K B1 t34 t35 t36 w
  | _ => False
theorem s69_p7_Fe {K : Value → World → Prop} {B1 : List Value → World → Prop} {t34 t35 t36 : Value} {w : World} : s69_p7_F K B1 [t34, t35, t36] w = s69_p6 K B1 t34 t35 t36 w := by kernel_rfl
def s69_p7 (K : Value → World → Prop) (t34 t35 t36 : Value) (w : World) : Prop :=
  LoopL (s69_p7_F K) [t34, t35, t36] w
def s69_p7_den (K : Value → World → Prop) : (Nat → Value) → World → Prop := fun s w => LoopP (fun M1 s w => s69_p6_den K M1 s w) s w
theorem s69_p7_ok (K : Value → World → Prop) (s : Nat → Value) (w : World) (h : s69_p7 K (s 34) (s 35) (s 36) w) : Tr (s69_p7_den K s w) :=
  tr_loop (G := fun N' s w => s69_p6_den K N' s w) (F := s69_p7_F K) (sel := fun s => [s 34, s 35, s 36]) (s := s) (w := w) (p := s69_p7 K (s 34) (s 35) (s 36) w) (q := s69_p7_den K s w) (fun B s w h => s69_p6_ok K B s w @h) (by kernel_rfl) (by kernel_rfl) @h
def s69_p8 (K : Value → World → Prop) (t0 : Value) (w : World) : Prop :=
  nw 30 (t0).cells (fun t1 w =>
  fd 0 t1 (fun t7 w =>
  ld1 t7 (fun t8 w =>
  boI .lss t8 (.int .i64 1) (fun t9 w =>
  gd t9 false (fd 0 t1) (fun t11 w =>
  gd t9 false (ld1 t11) (fun t12 w =>
  gd t9 false (boI .gtr t12 (.int .i64 1048576)) (fun t13 w =>
  pk t9 (.bool true) t13 (fun t14 w =>
  ifb t14
  (K (.bool false) w)
  (fd 1 t1 (fun t15 w =>
  ld1 t15 (fun t16 w =>
  boI .lss t16 (.int .i64 0) (fun t17 w =>
  gd t17 false (fd 1 t1) (fun t19 w =>
  gd t17 false (ld1 t19) (fun t20 w =>
  gd t17 false (boI .gtr t20 (.int .i64 1099511627776)) (fun t21 w =>
  pk t17 (.bool true) t21 (fun t22 w =>
  ifb t22
  (K (.bool false) w)
  (fd 2 t1 (fun t23 w =>
  ld1 t23 (fun t24 w =>
  lnS t24 (fun t25 w =>
  boI .lss t25 (.int .i64 1) (fun t26 w =>
  gd t26 false (fd 2 t1) (fun t28 w =>
  gd t26 false (ld1 t28) (fun t29 w =>
  gd t26 false (lnS t29) (fun t30 w =>
  gd t26 false (boI .gtr t30 (.int .i64 4096)) (fun t31 w =>
  pk t26 (.bool true) t31 (fun t32 w =>
  ifb t32
  (K (.bool false) w)
  (fd 2 t1 (fun t33 w =>
  ld1 t33 (fun t34 w =>
  lnS t34 (fun t35 w =>
  s69_p7 K t34 t35 (.int .i64 0) w) w) w) w)) w) w) w) w) w) w) w) w) w)) w) w) w) w) w) w) w)) w) w) w) w) w) w) w) w
def s69_p8_den (K : Value → World → Prop) : (Nat → Value) → World → Prop := denL Try.prog [(cd (Try.f69.body.getD .skip) [0]), (cd (Try.f69.body.getD .skip) [1, 0, 0]), (cd (Try.f69.body.getD .skip) [1, 0, 1]), (cd (Try.f69.body.getD .skip) [1, 1, 0, 0]), (cd (Try.f69.body.getD .skip) [1, 1, 0, 1]), (cd (Try.f69.body.getD .skip) [1, 1, 1, 0, 0]), (cd (Try.f69.body.getD .skip) [1, 1, 1, 0, 1]), (cd (Try.f69.body.getD .skip) [1, 1, 1, 1, 0, 0])] (s69_p7_den K) (fun i => (fun _ _ => False)) (s69_R K)
theorem s69_p8_ok (K : Value → World → Prop) (s : Nat → Value) (w : World) (h : s69_p8 K (s 0) w) : Tr (s69_p8_den K s w) :=
  tr_simple (P := Try.prog) (codes := [(cd (Try.f69.body.getD .skip) [0]), (cd (Try.f69.body.getD .skip) [1, 0, 0]), (cd (Try.f69.body.getD .skip) [1, 0, 1]), (cd (Try.f69.body.getD .skip) [1, 1, 0, 0]), (cd (Try.f69.body.getD .skip) [1, 1, 0, 1]), (cd (Try.f69.body.getD .skip) [1, 1, 1, 0, 0]), (cd (Try.f69.body.getD .skip) [1, 1, 1, 0, 1]), (cd (Try.f69.body.getD .skip) [1, 1, 1, 1, 0, 0])]) (N := (fun s w => s69_p7 K (s 34) (s 35) (s 36) w)) (N' := (s69_p7_den K)) (X := (fun i => (fun _ _ => False))) (X' := (fun i => (fun _ _ => False))) (R := s69_R K) (s := s) (w := w) (p := s69_p8 K (s 0) w) (q := s69_p8_den K s w) (fun s w h => s69_p7_ok K s w @h) (fun i => tr_id) (by kernel_rfl) (by kernel_rfl) @h
/-- the call, from the text -/
theorem c69 (t0 : Value) {K : Value → World → Prop} {w : World} (h : s69_p8 K t0 w) : cl Try.prog 69 #[t0] K w :=
  calls_of_tr (c := (Try.f69.body.getD .skip)) (fn := Try.f69) (q := s69_p8_den K (st0 #[t0]) w) Try.func69 (by kernel_rfl) (by kernel_rfl) (Nat.le_of_ble_eq_true (by kernel_rfl)) (by kernel_rfl) (by kernel_rfl) (s69_p8_ok K (st0 #[t0]) w @h)

/-! ### function 70 : e2e.slots.newTable -/
def s70_R (K : Value → World → Prop) (s : Nat → Value) (w : World) : Prop := retv Try.prog s Try.f70.results.toList (fun vs => K (pack vs) w) w
def s70_p1 (K : Value → World → Prop) (t4 : Value) (w : World) : Prop :=
  ldn 9 t4 (fun r0 _ =>
  K r0 w) w
def s70_p1_den (K : Value → World → Prop) : (Nat → Value) → World → Prop := denL Try.prog [(cd (Try.f70.body.getD .skip) [1, 1, 1, 1])] (fun _ _ => False) (fun i => (fun _ _ => False)) (s70_R K)
theorem s70_p1_ok (K : Value → World → Prop) (s : Nat → Value) (w : World) (h : s70_p1 K (s 4) w) : Tr (s70_p1_den K s w) :=
  tr_simple (P := Try.prog) (codes := [(cd (Try.f70.body.getD .skip) [1, 1, 1, 1])]) (N := (fun _ _ => False)) (N' := (fun _ _ => False)) (X := (fun i => (fun _ _ => False))) (X' := (fun i => (fun _ _ => False))) (R := s70_R K) (s := s) (w := w) (p := s70_p1 K (s 4) w) (q := s70_p1_den K s w) tr_id (fun i => tr_id) (by kernel_rfl) (by kernel_rfl) @h
def s70_p2_d (K : Value → World → Prop) (t2 t4 t5 t6 : Value) (w0 w : World) : Prop :=
  ldn 5 t2 (fun t14 _ =>
  boI .mul t6 (.int .i64 3) (fun t20 _ =>
  (mks 3 [(.int .i64 0)] 8 t6 t6 (fun t18 w =>
  Below w0.heap.size w0 w ∧
  mks 3 [(.int .i64 0)] 8 t20 t20 (fun t21 w =>
  Below w0.heap.size w0 w ∧
  bdq [(.int .i64 0), (.int .i64 0), (.int .i64 0), (.int .i64 0), (.int .i64 0), (.int .i64 0), (.int .i64 0), (.slice none 0 0), (.slice none 0 0)] [(some (0, 5), t14), (some (5, 1), t5), (some (6, 1), t6), (some (7, 1), t18), (some (8, 1), t21)] (fun t22 w =>
  stn 9 t4 t22 (fun w =>
  s70_p1 K t4 w) w) w) w) w) ∧
  (mks 3 [(.int .i64 0)] 8 t20 t20 (fun t21_2 w =>
  Below w0.heap.size w0 w ∧
  mks 3 [(.int .i64 0)] 8 t6 t6 (fun t18_2 w =>
  Below w0.heap.size w0 w ∧
  bdq [(.int .i64 0), (.int .i64 0), (.int .i64 0), (.int .i64 0), (.int .i64 0), (.int .i64 0), (.int .i64 0), (.slice none 0 0), (.slice none 0 0)] [(some (0, 5), t14), (some (5, 1), t5), (some (6, 1), t6), (some (7, 1), t18_2), (some (8, 1), t21_2)] (fun t22_2 w =>
  stn 9 t4 t22_2 (fun w =>
  s70_p1 K t4 w) w) w) w) w)) w0) w0
def s70_p2 (K : Value → World → Prop) (t2 t4 t5 t6 : Value) (w : World) : Prop := s70_p2_d K t2 t4 t5 t6 (drw w) (drw w)
def s70_p2_den (K : Value → World → Prop) : (Nat → Value) → World → Prop := denL Try.prog [(cd (Try.f70.body.getD .skip) [1, 1, 1, 0])] (s70_p1_den K) (fun i => (fun _ _ => False)) (s70_R K)
theorem s70_p2_ok (K : Value → World → Prop) (s : Nat → Value) (w : World) (h : s70_p2 K (s 2) (s 4) (s 5) (s 6) w) : Tr (s70_p2_den K s w) :=
  tr_draw (P := Try.prog) (ops := (ro (cd (Try.f70.body.getD .skip) [1, 1, 1, 0]))) (ms := [0, 0, 0, 0, 8, 0, 32, 96, 255, 511]) (cs := [0, 1, 2, 3, 5, 6]) (N := (fun s w => s70_p1 K (s 4) w)) (N' := (s70_p1_den K)) (s := s) (w := w) (p := s70_p2 K (s 2) (s 4) (s 5) (s 6) w) (q := s70_p2_den K s w) (by kernel_rfl) (by kernel_rfl) (fun s w h => s70_p1_ok K s w @h) (by kernel_rfl) (by kernel_rfl) @h
def s70_p3 (K : Value → World → Prop) (t0 t1 : Value) (w : World) : Prop :=
  nw 59 (t0).cells (fun t2 w =>
  nw 102 #[(.int .i64 0), (.int .i64 0), (.int .i64 0), (.int .i64 0), (.int .i64 0), (.int .i64 0), (.int .i64 0), (.slice none 0 0), (.slice none 0 0)] (fun t4 w =>
  fd 1 t2 (fun t7 w =>
  ld1 t7 (fun t8 w =>
  boI .sub t8 (.int .i64 1) (fun t9 w =>
  boI .mul (.int .i64 2) t9 (fun t12 w =>
  boI .add t1 t12 (fun t13 w =>
  s70_p2 K t2 t4 t9 t13 w) w) w) w) w) w) w) w
def s70_p3_den (K : Value → World → Prop) : (Nat → Value) → World → Prop := denL Try.prog [(cd (Try.f70.body.getD .skip) [0]), (cd (Try.f70.body.getD .skip) [1, 0]), (cd (Try.f70.body.getD .skip) [1, 1, 0])] (s70_p2_den K) (fun i => (fun _ _ => False)) (s70_R K)
theorem s70_p3_ok (K : Value → World → Prop) (s : Nat → Value) (w : World) (h : s70_p3 K (s 0) (s 1) w) : Tr (s70_p3_den K s w) :=
  tr_simple (P := Try.prog) (codes := [(cd (Try.f70.body.getD .skip) [0]), (cd (Try.f70.body.getD .skip) [1, 0]), (cd (Try.f70.body.getD .skip) [1, 1, 0])]) (N := (fun s w => s70_p2 K (s 2) (s 4) (s 5) (s 6) w)) (N' := (s70_p2_den K)) (X := (fun i => (fun _ _ => False))) (X' := (fun i => (fun _ _ => False))) (R := s70_R K) (s := s) (w := w) (p := s70_p3 K (s 0) (s 1) w) (q := s70_p3_den K s w) (fun s w h => s70_p2_ok K s w @h) (fun i => tr_id) (by kernel_rfl) (by kernel_rfl) @h
/-- the call, from the text -/
theorem c70 (t0 t1 : Value) {K : Value → World → Prop} {w : World} (h : s70_p3 K t0 t1 w) : cl Try.prog 70 #[t0, t1] K w :=
  calls_of_tr (c := (Try.f70.body.getD .skip)) (fn := Try.f70) (q := s70_p3_den K (st0 #[t0, t1]) w) Try.func70 (by kernel_rfl) (by kernel_rfl) (Nat.le_of_ble_eq_true (by kernel_rfl)) (by kernel_rfl) (by kernel_rfl) (s70_p3_ok K (st0 #[t0, t1]) w @h)

/-! ### function 71 : (*e2e.slots.table).advance -/
def s71_R (K : Value → World → Prop) (s : Nat → Value) (w : World) : Prop := retv Try.prog s Try.f71.results.toList (fun vs => K (pack vs) w) w
def s71_p1 (K : Value → World → Prop) (B1 : List Value → World → Prop) (t0 t2 t6 : Value) (w : World) : Prop :=
  boI .sub t2 (.int .i64 1) (fun t29 w =>
  B1 [t0, t29, t6] w) w
def s71_p1_den (K : Value → World → Prop) (M1 : (Nat → Value) → World → Prop) : (Nat → Value) → World → Prop := denL Try.prog [(cd (Try.f71.body.getD .skip) [1, 1, 0, 0, 1, 1])] M1 (fun i => (bif Nat.beq i 0 then (s71_R K) else (fun _ _ => False))) (s71_R K)
theorem s71_p1_ok (K : Value → World → Prop) (B1 : List Value → World → Prop) (s : Nat → Value) (w : World) (h : s71_p1 K B1 (s 0) (s 2) (s 6) w) : Tr (s71_p1_den K (fun s w => B1 [s 0, s 2, s 6] w) s w) :=
  tr_simple (P := Try.prog) (codes := [(cd (Try.f71.body.getD .skip) [1, 1, 0, 0, 1, 1])]) (N := (fun s w => B1 [s 0, s 2, s 6] w)) (N' := (fun s w => B1 [s 0, s 2, s 6] w)) (X := (fun i => (bif Nat.beq i 0 then (s71_R K) else (fun _ _ => False)))) (X' := (fun i => (bif Nat.beq i 0 then (s71_R K) else (fun _ _ => False)))) (R := s71_R K) (s := s) (w := w) (p := s71_p1 K B1 (s 0) (s 2) (s 6) w) (q := s71_p1_den K (fun s w => B1 [s 0, s 2, s 6] w) s w) tr_id (fun i => (tr_bif tr_id tr_id)) (by kernel_rfl) (by kernel_rfl) @h
def s71_p2 (K : Value → World → Prop) (B1 : List Value → World → Prop) (t0 t2 t6 : Value) (w : World) : Prop :=
  cl Try.prog 77 #[t0, t6] (fun t51 w =>
  s71_p1 K B1 t0 t2 t51 w) w
def s71_p2_den (K : Value → World → Prop) (M1 : (Nat → Value) → World → Prop) : (Nat → Value) → World → Prop := denL Try.prog [(cd (Try.f71.body.getD .skip) [1, 1, 0, 0, 1, 0, 0, 1, 1])] (s71_p1_den K M1) (fun i => (bif Nat.beq i 1 then (s71_p1_den K M1) else (bif Nat.beq i 0 then (s71_R K) else (fun _ _ => False)))) (s71_R K)
theorem s71_p2_ok (K : Value → World → Prop) (B1 : List Value → World → Prop) (s : Nat → Value) (w : World) (h : s71_p2 K B1 (s 0) (s 2) (s 6) w) : Tr (s71_p2_den K (fun s w => B1 [s 0, s 2, s 6] w) s w) :=
  tr_simple (P := Try.prog) (codes := [(cd (Try.f71.body.getD .skip) [1, 1, 0, 0, 1, 0, 0, 1, 1])]) (N := (fun s w => s71_p1 K B1 (s 0) (s 2) (s 6) w)) (N' := (s71_p1_den K (fun s w => B1 [s 0, s 2, s 6] w))) (X := (fun i => (bif Nat.beq i 1 then (fun s w => s71_p1 K B1 (s 0) (s 2) (s 6) w) else (bif Nat.beq i 0 then (s71_R K) else (fun _ _ => False))))) (X' := (fun i => (bif Nat.beq i 1 then (s71_p1_den K (fun s w => B1 [s 0, s 2, s 6] w)) else (bif Nat.beq i 0 then (s71_R K) else (fun _ _ => False))))) (R := s71_R K) (s := s) (w := w) (p := s71_p2 K B1 (s 0) (s 2) (s 6) w) (q := s71_p2_den K (fun s w => B1 [s 0, s 2, s 6] w) s w) (fun s w h => s71_p1_ok K B1 s w @h) (fun i => (tr_bif (fun s w h => s71_p1_ok K B1 s w @h) (tr_bif tr_id tr_id))) (by kernel_rfl) (by kernel_rfl) @h
def s71_p3 (K : Value → World → Prop) (B1 : List Value → World → Prop) (B2 : List Value → World → Prop) (t0 t2 t6 t7 : Value) (w : World) : Prop :=
  boI .lss t7 (.int .i64 3) (fun t37 w =>
  ifb t37
  (nck t0 (fun t41 w =>
  fd 8 t41 (fun t42 w =>
  ld1 t42 (fun t43 w =>
  boI .mul t6 (.int .i64 3) (fun t45 w =>
  boI .add t45 t7 (fun t47 w =>
  ixs 1 t43 t47 (fun t48 w =>
  st1 t48 (.int .i64 0) (fun w =>
  boI .add t7 (.int .i64 1) (fun t39 w =>
  B2 [t0, t2, t6, t39] w) w) w) w) w) w) w) w) w)
  (s71_p2 K B1 t0 t2 t6 w)) w
def s71_p3_den (K : Value → World → Prop) (M1 : (Nat → Value) → World → Prop) (M2 : (Nat → Value) → World → Prop) : (Nat → Value) → World → Prop := denL Try.prog [(cd (Try.f71.body.getD .skip) [1, 1, 0, 0, 1, 0, 0, 1, 0, 1, 0, 0, 0, 0]), (cd (Try.f71.body.getD .skip) [1, 1, 0, 0, 1, 0, 0, 1, 0, 1, 0, 0, 0, 1]), (cd (Try.f71.body.getD .skip) [1, 1, 0, 0, 1, 0, 0, 1, 0, 1, 0, 0, 1, 0]), (cd (Try.f71.body.getD .skip) [1, 1, 0, 0, 1, 0, 0, 1, 0, 1, 0, 0, 1, 1])] M2 (fun i => (bif Nat.beq i 2 then (s71_p2_den K M1) else (bif Nat.beq i 1 then (s71_p1_den K M1) else (bif Nat.beq i 0 then (s71_R K) else (fun _ _ => False))))) (s71_R K)
theorem s71_p3_ok (K : Value → World → Prop) (B1 : List Value → World → Prop) (B2 : List Value → World → Prop) (s : Nat → Value) (w : World) (h : s71_p3 K B1 B2 (s 0) (s 2) (s 6) (s 7) w) : Tr (s71_p3_den K (fun s w => B1 [s 0, s 2, s 6] w) (fun s w => B2 [s 0, s 2, s 6, s 7] w) s w) :=
  tr_simple (P := Try.prog) (codes := [(cd (Try.f71.body.getD .skip) [1, 1, 0, 0, 1, 0, 0, 1, 0, 1, 0, 0, 0, 0]), (cd (Try.f71.body.getD .skip) [1, 1, 0, 0, 1, 0, 0, 1, 0, 1, 0, 0, 0, 1]), (cd (Try.f71.body.getD .skip) [1, 1, 0, 0, 1, 0, 0, 1, 0, 1, 0, 0, 1, 0]), (cd (Try.f71.body.getD .skip) [1, 1, 0, 0, 1, 0, 0, 1, 0, 1, 0, 0, 1, 1])]) (N := (fun s w => B2 [s 0, s 2, s 6, s 7] w)) (N' := (fun s w => B2 [s 0, s 2, s 6, s 7] w)) (X := (fun i => (bif Nat.beq i 2 then (fun s w => s71_p2 K B1 (s 0) (s 2) (s 6) w) else (bif Nat.beq i 1 then (fun s w => s71_p1 K B1 (s 0) (s 2) (s 6) w) else (bif Nat.beq i 0 then (s71_R K) else (fun _ _ => False)))))) (X' := (fun i => (bif Nat.beq i 2 then (s71_p2_den K (fun s w => B1 [s 0, s 2, s 6] w)) else (bif Nat.beq i 1 then (s71_p1_den K (fun s w => B1 [s 0, s 2, s 6] w)) else (bif Nat.beq i 0 then (s71_R K) else (fun _ _ => False)))))) (R := s71_R K) (s := s) (w := w) (p := s71_p3 K B1 B2 (s 0) (s 2) (s 6) (s 7) w) (q := s71_p3_den K (fun s w => B1 [s 0, s 2, s 6] w) (fun s w => B2 [s 0, s 2, s 6, s 7] w) s w) tr_id (fun i => (tr_bif (fun s w h => s71_p2_ok K B1 s w @h) (tr_bif (fun s w h => s71_p1_ok K B1 s w @h) (tr_bif tr_id tr_id)))) (by kernel_rfl) (by kernel_rfl) @h
def s71_p4_F (K : Value → World → Prop) (B1 : List Value → World → Prop) (B2 : List Value → World → Prop) (l : List Value) (w : World) : Prop :=
  match l with
  | [t0, t2, t6, t7] => s71_p3 K B1 B2 t0 t2 t6 t7 w
  | _ => False
theorem s71_p4_Fe {K : Value → World → Prop} {B1 : List Value → World → Prop} {B2 : List Value → World → Prop} {t0 t2 t6 t7 : Value} {w : World} : s71_p4_F K B1 B2 [t0, t2, t6, t7] w = s71_p3 K B1 B2 t0 t2 t6 t7 w := by kernel_rfl
def s71_p4 (K : Value → World → Prop) (B1 : List Value → World → Prop) (t0 t2 t6 t7 : Value) (w : World) : Prop :=
  LoopL (s71_p4_F K B1) [t0, t2, t6, t7] w
def s71_p4_den (K : Value → World → Prop) (M1 : (Nat → Value) → World → Prop) : (Nat → Value) → World → Prop := fun s w => LoopP (fun M2 s w => s71_p3_den K M1 M2 s w) s w
theorem s71_p4_ok (K : Value → World → Prop) (B1 : List Value → World → Prop) (s : Nat → Value) (w : World) (h : s71_p4 K B1 (s 0) (s 2) (s 6) (s 7) w) : Tr (s71_p4_den K (fun s w => B1 [s 0, s 2, s 6] w) s w) :=
  tr_loop (G := fun N' s w => s71_p3_den K (fun s w => B1 [s 0, s 2, s 6] w) N' s w) (F := s71_p4_F K B1) (sel := fun s => [s 0, s 2, s 6, s 7]) (s := s) (w := w) (p := s71_p4 K B1 (s 0) (s 2) (s 6) (s 7) w) (q := s71_p4_den K (fun s w => B1 [s 0, s 2, s 6] w) s w) (fun B s w h => s71_p3_ok K B1 B s w @h) (by kernel_rfl) (by kernel_rfl) @h
def s71_p5 (K : Value → World → Prop) (B1 : List Value → World → Prop) (t0 t2 t6 : Value) (w : World) : Prop :=
  nck t0 (fun t31 w =>
  fd 7 t31 (fun t32 w =>
  ld1 t32 (fun t33 w =>
  ixs 1 t33 t6 (fun t35 w =>
  st1 t35 (.int .i64 0) (fun w =>
  s71_p4 K B1 t0 t2 t6 (.int .i64 0) w) w) w) w) w) w
def s71_p5_den (K : Value → World → Prop) (M1 : (Nat → Value) → World → Prop) : (Nat → Value) → World → Prop := denL Try.prog [(cd (Try.f71.body.getD .skip) [1, 1, 0, 0, 1, 0, 0, 0]), (cd (Try.f71.body.getD .skip) [1, 1, 0, 0, 1, 0, 0, 1, 0, 0])] (s71_p4_den K M1) (fun i => (bif Nat.beq i 1 then (s71_p1_den K M1) else (bif Nat.beq i 0 then (s71_R K) else (fun _ _ => False)))) (s71_R K)
theorem s71_p5_ok (K : Value → World → Prop) (B1 : List Value → World → Prop) (s : Nat → Value) (w : World) (h : s71_p5 K B1 (s 0) (s 2) (s 6) w) : Tr (s71_p5_den K (fun s w => B1 [s 0, s 2, s 6] w) s w) :=
  tr_simple (P := Try.prog) (codes := [(cd (Try.f71.body.getD .skip) [1, 1, 0, 0, 1, 0, 0, 0]), (cd (Try.f71.body.getD .skip) [1, 1, 0, 0, 1, 0, 0, 1, 0, 0])]) (N := (fun s w => s71_p4 K B1 (s 0) (s 2) (s 6) (s 7) w)) (N' := (s71_p4_den K (fun s w => B1 [s 0, s 2, s 6] w))) (X := (fun i => (bif Nat.beq i 1 then (fun s w => s71_p1 K B1 (s 0) (s 2) (s 6) w) else (bif Nat.beq i 0 then (s71_R K) else (fun _ _ => False))))) (X' := (fun i => (bif Nat.beq i 1 then (s71_p1_den K (fun s w => B1 [s 0, s 2, s 6] w)) else (bif Nat.beq i 0 then (s71_R K) else (fun _ _ => False))))) (R := s71_R K) (s := s) (w := w) (p := s71_p5 K B1 (s 0) (s 2) (s 6) w) (q := s71_p5_den K (fun s w => B1 [s 0, s 2, s 6] w) s w) (fun s w h => s71_p4_ok K B1 s w @h) (fun i => (tr_bif (fun s w h => s71_p1_ok K B1 s w @h) (tr_bif tr_id tr_id))) (by kernel_rfl) (by kernel_rfl) @h
def s71_p6 (K : Value → World → Prop) (B1 : List Value → World → Prop) (t0 t2 t6 : Value) (w : World) : Prop :=
  boI .gtr t2 (.int .i64 0) (fun t27 w =>
  ifb t27
  (s71_p5 K B1 t0 t2 t6 w)
  (K (.tuple #[]) w)) w
def s71_p6_den (K : Value → World → Prop) (M1 : (Nat → Value) → World → Prop) : (Nat → Value) → World → Prop := denL Try.prog [(cd (Try.f71.body.getD .skip) [1, 1, 0, 0, 0, 0]), (cd (Try.f71.body.getD .skip) [1, 1, 0, 0, 0, 1])] (s71_p5_den K M1) (fun i => (bif Nat.beq i 0 then (s71_R K) else (fun _ _ => False))) (s71_R K)
theorem s71_p6_ok (K : Value → World → Prop) (B1 : List Value → World → Prop) (s : Nat → Value) (w : World) (h : s71_p6 K B1 (s 0) (s 2) (s 6) w) : Tr (s71_p6_den K (fun s w => B1 [s 0, s 2, s 6] w) s w) :=
  tr_simple (P := Try.prog) (codes := [(cd (Try.f71.body.getD .skip) [1, 1, 0, 0, 0, 0]), (cd (Try.f71.body.getD .skip) [1, 1, 0, 0, 0, 1])]) (N := (fun s w => s71_p5 K B1 (s 0) (s 2) (s 6) w)) (N' := (s71_p5_den K (fun s w => B1 [s 0, s 2, s 6] w))) (X := (fun i => (bif Nat.beq i 0 then (s71_R K) else (fun _ _ => False)))) (X' := (fun i => (bif Nat.beq i 0 then (s71_R K) else (fun _ _ => False)))) (R := s71_R K) (s := s) (w := w) (p := s71_p6 K B1 (s 0) (s 2) (s 6) w) (q := s71_p6_den K (fun s w => B1 [s 0, s 2, s 6] w) s w) (fun s w h => s71_p5_ok K B1 s w @h) (fun i => (tr_bif tr_id tr_id)) (by kernel_rfl) (by kernel_rfl) @h
def s71_p7_F (K : Value → World → Prop) (B1 : List Value → World → Prop) (l : List Value) (w : World) : Prop :=
  match l with
  | [t0, t2, t6] => s71_p6 K B1 t0 t2 t6 w
  | _ => False
theorem s71_p7_Fe {K : Value → World → Prop} {B1 : List Value → World → Prop} {t0 t2 t6 : Value} {w : World} : s71_p7_F K B1 [t0, t2, t6] w = s71_p6 K B1 t0 t2 t6 w := by kernel_rfl
def s71_p7 (K : Value → World → Prop) (t0 t2 t6 : Value) (w : World) : Prop :=
  LoopL (s71_p7_F K) [t0, t2, t6] w
def s71_p7_den (K : Value → World → Prop) : (Nat → Value) → World → Prop := fun s w => LoopP (fun M1 s w => s71_p6_den K M1 s w) s w
theorem s71_p7_ok (K : Value → World → Prop) (s : Nat → Value) (w : World) (h : s71_p7 K (s 0) (s 2) (s 6) w) : Tr (s71_p7_den K s w) :=
  tr_loop (G := fun N' s w => s71_p6_den K N' s w) (F := s71_p7_F K) (sel := fun s => [s 0, s 2, s 6]) (s := s) (w := w) (p := s71_p7 K (s 0) (s 2) (s 6) w) (q := s71_p7_den K s w) (fun B s w h => s71_p6_ok K B s w @h) (by kernel_rfl) (by kernel_rfl) @h
def s71_p8 (K : Value → World → Prop) (t0 t1 t2 : Value) (w : World) : Prop :=
  nck t0 (fun t21 w =>
  fd 5 t21 (fun t22 w =>
  ld1 t22 (fun t23 w =>
  boI .sub t1 t23 (fun t24 w =>
  cl Try.prog 64 #[t0, t24] (fun t25 w =>
  s71_p7 K t0 t2 t25 w) w) w) w) w) w
def s71_p8_den (K : Value → World → Prop) : (Nat → Value) → World → Prop := denL Try.prog [(cd (Try.f71.body.getD .skip) [1, 0])] (s71_p7_den K) (fun i => (fun _ _ => False)) (s71_R K)
theorem s71_p8_ok (K : Value → World → Prop) (s : Nat → Value) (w : World) (h : s71_p8 K (s 0) (s 1) (s 2) w) : Tr (s71_p8_den K s w) :=
  tr_simple (P := Try.prog) (codes := [(cd (Try.f71.body.getD .skip) [1, 0])]) (N := (fun s w => s71_p7 K (s 0) (s 2) (s 6) w)) (N' := (s71_p7_den K)) (X := (fun i => (fun _ _ => False))) (X' := (fun i => (fun _ _ => False))) (R := s71_R K) (s := s) (w := w) (p := s71_p8 K (s 0) (s 1) (s 2) w) (q := s71_p8_den K s w) (fun s w h => s71_p7_ok K s w @h) (fun i => tr_id) (by kernel_rfl) (by kernel_rfl) @h
def s71_p9 (K : Value → World → Prop) (t0 t1 t2 : Value) (w : World) : Prop :=
  nck t0 (fun t10 w =>
  fd 6 t10 (fun t11 w =>
  ld1 t11 (fun t12 w =>
  boI .gtr t2 t12 (fun t13 w =>
  ifb t13
  (nck t0 (fun t15 w =>
  fd 6 t15 (fun t16 w =>
  ld1 t16 (fun t17 w =>
  s71_p8 K t0 t1 t17 w) w) w) w)
  (s71_p8 K t0 t1 t2 w)) w) w) w) w
def s71_p9_den (K : Value → World → Prop) : (Nat → Value) → World → Prop := denL Try.prog [(cd (Try.f71.body.getD .skip) [0, 0]), (cd (Try.f71.body.getD .skip) [0, 1])] (s71_p8_den K) (fun i => (fun _ _ => False)) (s71_R K)
theorem s71_p9_ok (K : Value → World → Prop) (s : Nat → Value) (w : World) (h : s71_p9 K (s 0) (s 1) (s 2) w) : Tr (s71_p9_den K s w) :=
  tr_simple (P := Try.prog) (codes := [(cd (Try.f71.body.getD .skip) [0, 0]), (cd (Try.f71.body.getD .skip) [0, 1])]) (N := (fun s w => s71_p8 K (s 0) (s 1) (s 2) w)) (N' := (s71_p8_den K)) (X := (fun i => (fun _ _ => False))) (X' := (fun i => (fun _ _ => False))) (R := s71_R K) (s := s) (w := w) (p := s71_p9 K (s 0) (s 1) (s 2) w) (q := s71_p9_den K s w) (fun s w h => s71_p8_ok K s w @h) (fun i => tr_id) (by kernel_rfl) (by kernel_rfl) @h
/-- the call, from the text -/
theorem c71 (t0 t1 t2 : Value) {K : Value → World → Prop} {w : World} (h : s71_p9 K t0 t1 t2 w) : cl Try.prog 71 #[t0, t1, t2] K w :=
  calls_of_tr (c := (Try.f71.body.getD .skip)) (fn := Try.f71) (q := s71_p9_den K (st0 #[t0, t1, t2]) w) Try.func71 (by kernel_rfl) (by kernel_rfl) (Nat.le_of_ble_eq_true (by kernel_rfl)) (by kernel_rfl) (by kernel_rfl) (s71_p9_ok K (st0 #[t0, t1, t2]) w @h)

/-! ### function 72 : (*e2e.slots.table).peak -/
def s72_R (K : Value → World → Prop) (s : Nat → Value) (w : World) : Prop := retv Try.prog s Try.f72.results.toList (fun vs => K (pack vs) w) w
def s72_p1 (K : Value → World → Prop) (t6 : Value) (w : World) : Prop :=
  K t6 w
def s72_p1_den (K : Value → World → Prop) : (Nat → Value) → World → Prop := denL Try.prog [(cd (Try.f72.body.getD .skip) [1, 1, 1, 1, 0]), (cd (Try.f72.body.getD .skip) [1, 1, 1, 1, 1])] (fun _ _ => False) (fun i => (fun _ _ => False)) (s72_R K)
theorem s72_p1_ok (K : Value → World → Prop) (s : Nat → Value) (w : World) (h : s72_p1 K (s 6) w) : Tr (s72_p1_den K s w) :=
  tr_simple (P := Try.prog) (codes := [(cd (Try.f72.body.getD .skip) [1, 1, 1, 1, 0]), (cd (Try.f72.body.getD .skip) [1, 1, 1, 1, 1])]) (N := (fun _ _ => False)) (N' := (fun _ _ => False)) (X := (fun i => (fun _ _ => False))) (X' := (fun i => (fun _ _ => False))) (R := s72_R K) (s := s) (w := w) (p := s72_p1 K (s 6) w) (q := s72_p1_den K s w) tr_id (fun i => tr_id) (by kernel_rfl) (by kernel_rfl) @h
def s72_p2 (K : Value → World → Prop) (B1 : List Value → World → Prop) (t0 t5 t6 t7 : Value) (w : World) : Prop :=
  boI .add t7 (.int .i64 1) (fun t26 w =>
  B1 [t0, t5, t6, t26] w) w
def s72_p2_den (K : Value → World → Prop) (M1 : (Nat → Value) → World → Prop) : (Nat → Value) → World → Prop := denL Try.prog [(cd (Try.f72.body.getD .skip) [1, 1, 1, 0, 1, 0, 0, 1, 1])] M1 (fun i => (bif Nat.beq i 0 then (s72_p1_den K) else (fun _ _ => False))) (s72_R K)
theorem s72_p2_ok (K : Value → World → Prop) (B1 : List Value → World → Prop) (s : Nat → Value) (w : World) (h : s72_p2 K B1 (s 0) (s 5) (s 6) (s 7) w) : Tr (s72_p2_den K (fun s w => B1 [s 0, s 5, s 6, s 7] w) s w) :=
  tr_simple (P := Try.prog) (codes := [(cd (Try.f72.body.getD .skip) [1, 1, 1, 0, 1, 0, 0, 1, 1])]) (N := (fun s w => B1 [s 0, s 5, s 6, s 7] w)) (N' := (fun s w => B1 [s 0, s 5, s 6, s 7] w)) (X := (fun i => (bif Nat.beq i 0 then (fun s w => s72_p1 K (s 6) w) else (fun _ _ => False)))) (X' := (fun i => (bif Nat.beq i 0 then (s72_p1_den K) else (fun _ _ => False)))) (R := s72_R K) (s := s) (w := w) (p := s72_p2 K B1 (s 0) (s 5) (s 6) (s 7) w) (q := s72_p2_den K (fun s w => B1 [s 0, s 5, s 6, s 7] w) s w) tr_id (fun i => (tr_bif (fun s w h => s72_p1_ok K s w @h) tr_id)) (by kernel_rfl) (by kernel_rfl) @h
def s72_p3 (K : Value → World → Prop) (B1 : List Value → World → Prop) (t0 t5 t6 t7 : Value) (w : World) : Prop :=
  nck t0 (fun t20 w =>
  fd 0 t20 (fun t21 w =>
  fd 1 t21 (fun t22 w =>
  ld1 t22 (fun t23 w =>
  boI .lss t7 t23 (fun t24 w =>
  ifb t24
  (cl Try.prog 77 #[t0, t5] (fun t29 w =>
  nck t0 (fun t31 w =>
  fd 7 t31 (fun t32 w =>
  ld1 t32 (fun t33 w =>
  ixs 1 t33 t29 (fun t35 w =>
  ld1 t35 (fun t36 w =>
  boI .gtr t36 t6 (fun t38 w =>
  ifb t38
  (nck t0 (fun t40 w =>
  fd 7 t40 (fun t41 w =>
  ld1 t41 (fun t42 w =>
  ixs 1 t42 t29 (fun t44 w =>
  ld1 t44 (fun t45 w =>
  s72_p2 K B1 t0 t29 t45 t7 w) w) w) w) w) w)
  (s72_p2 K B1 t0 t29 t6 t7 w)) w) w) w) w) w) w) w)
  (s72_p1 K t6 w)) w) w) w) w) w
def s72_p3_den (K : Value → World → Prop) (M1 : (Nat → Value) → World → Prop) : (Nat → Value) → World → Prop := denL Try.prog [(cd (Try.f72.body.getD .skip) [1, 1, 1, 0, 1, 0, 0, 0, 0]), (cd (Try.f72.body.getD .skip) [1, 1, 1, 0, 1, 0, 0, 0, 1]), (cd (Try.f72.body.getD .skip) [1, 1, 1, 0, 1, 0, 0, 1, 0])] (s72_p2_den K M1) (fun i => (bif Nat.beq i 0 then (s72_p1_den K) else (fun _ _ => False))) (s72_R K)
theorem s72_p3_ok (K : Value → World → Prop) (B1 : List Value → World → Prop) (s : Nat → Value) (w : World) (h : s72_p3 K B1 (s 0) (s 5) (s 6) (s 7) w) : Tr (s72_p3_den K (fun s w => B1 [s 0, s 5, s 6, s 7] w) s w) :=
  tr_simple (P := Try.prog) (codes := [(cd (Try.f72.body.getD .skip) [1, 1, 1, 0, 1, 0, 0, 0, 0]), (cd (Try.f72.body.getD .skip) [1, 1, 1, 0, 1, 0, 0, 0, 1]), (cd (Try.f72.body.getD .skip) [1, 1, 1, 0, 1, 0, 0, 1, 0])]) (N := (fun s w => s72_p2 K B1 (s 0) (s 5) (s 6) (s 7) w)) (N' := (s72_p2_den K (fun s w => B1 [s 0, s 5, s 6, s 7] w))) (X := (fun i => (bif Nat.beq i 0 then (fun s w => s72_p1 K (s 6) w) else (fun _ _ => False)))) (X' := (fun i => (bif Nat.beq i 0 then (s72_p1_den K) else (fun _ _ => False)))) (R := s72_R K) (s := s) (w := w) (p := s72_p3 K B1 (s 0) (s 5) (s 6) (s 7) w) (q := s72_p3_den K (fun s w => B1 [s 0, s 5, s 6, s 7] w) s w) (fun s w h => s72_p2_ok K B1 s w @h) (fun i => (tr_bif (fun s w h => s72_p1_ok K s w @h) tr_id)) (by kernel_rfl) (by kernel_rfl) @h
def s72_p4_F (K : Value → World → Prop) (B1 : List Value → World → Prop) (l : List Value) (w : World) : Prop :=
  match l with
  | [t0, t5, t6, t7] => s72_p3 K B1 t0 t5 t6 t7 w
  | _ => False
theorem s72_p4_Fe {K : Value → World → Prop} {B1 : List Value → World → Prop} {t0 t5 t6 t7 : Value} {w : World} : s72_p4_F K B1 [t0, t5, t6, t7] w = s72_p3 K B1 t0 t5 t6 t7 w := by kernel_rfl
def s72_p4 (K : Value → World → Prop) (t0 t5 t6 t7 : Value) (w : World) : Prop :=
  LoopL (s72_p4_F K) [t0, t5, t6, t7] w
def s72_p4_den (K : Value → World → Prop) : (Nat → Value) → World → Prop := fun s w => LoopP (fun M1 s w => s72_p3_den K M1 s w) s w
theorem s72_p4_ok (K : Value → World → Prop) (s : Nat → Value) (w : World) (h : s72_p4 K (s 0) (s 5) (s 6) (s 7) w) : Tr (s72_p4_den K s w) :=
  tr_loop (G := fun N' s w => s72_p3_den K N' s w) (F := s72_p4_F K) (sel := fun s => [s 0, s 5, s 6, s 7]) (s := s) (w := w) (p := s72_p4 K (s 0) (s 5) (s 6) (s 7) w) (q := s72_p4_den K s w) (fun B s w h => s72_p3_ok K B s w @h) (by kernel_rfl) (by kernel_rfl) @h
def s72_p5 (K : Value → World → Prop) (t0 t1 : Value) (w : World) : Prop :=
  cl Try.prog 64 #[t0, t1] (fun t10 w =>
  nck t0 (fun t12 w =>
  fd 7 t12 (fun t13 w =>
  ld1 t13 (fun t14 w =>
  ixs 1 t14 t10 (fun t16 w =>
  ld1 t16 (fun t17 w =>
  s72_p4 K t0 t10 t17 (.int .i64 1) w) w) w) w) w) w) w
def s72_p5_den (K : Value → World → Prop) : (Nat → Value) → World → Prop := denL Try.prog [(cd (Try.f72.body.getD .skip) [0]), (cd (Try.f72.body.getD .skip) [1, 0]), (cd (Try.f72.body.getD .skip) [1, 1, 0]), (cd (Try.f72.body.getD .skip) [1, 1, 1, 0, 0])] (s72_p4_den K) (fun i => (fun _ _ => False)) (s72_R K)
theorem s72_p5_ok (K : Value → World → Prop) (s : Nat → Value) (w : World) (h : s72_p5 K (s 0) (s 1) w) : Tr (s72_p5_den K s w) :=
  tr_simple (P := Try.prog) (codes := [(cd (Try.f72.body.getD .skip) [0]), (cd (Try.f72.body.getD .skip) [1, 0]), (cd (Try.f72.body.getD .skip) [1, 1, 0]), (cd (Try.f72.body.getD .skip) [1, 1, 1, 0, 0])]) (N := (fun s w => s72_p4 K (s 0) (s 5) (s 6) (s 7) w)) (N' := (s72_p4_den K)) (X := (fun i => (fun _ _ => False))) (X' := (fun i => (fun _ _ => False))) (R := s72_R K) (s := s) (w := w) (p := s72_p5 K (s 0) (s 1) w) (q := s72_p5_den K s w) (fun s w h => s72_p4_ok K s w @h) (fun i => tr_id) (by kernel_rfl) (by kernel_rfl) @h
/-- the call, from the text -/
theorem c72 (t0 t1 : Value) {K : Value → World → Prop} {w : World} (h : s72_p5 K t0 t1 w) : cl Try.prog 72 #[t0, t1] K w :=
  calls_of_tr (c := (Try.f72.body.getD .skip)) (fn := Try.f72) (q := s72_p5_den K (st0 #[t0, t1]) w) Try.func72 (by kernel_rfl) (by kernel_rfl) (Nat.le_of_ble_eq_true (by kernel_rfl)) (by kernel_rfl) (by kernel_rfl) (s72_p5_ok K (st0 #[t0, t1]) w @h)

/-! ### function 73 : (*e2e.slots.table).firstFit -/
def s73_R (K : Value → World → Prop) (s : Nat → Value) (w : World) : Prop := retv Try.prog s Try.f73.results.toList (fun vs => K (pack vs) w) w
def s73_p1 (K : Value → World → Prop) (w : World) : Prop :=
  K (.tuple #[(.int .i64 0), (.bool false)]) w
def s73_p1_den (K : Value → World → Prop) : (Nat → Value) → World → Prop := denL Try.prog [(cd (Try.f73.body.getD .skip) [1, 1, 1, 1, 1, 1, 0]), (cd (Try.f73.body.getD .skip) [1, 1, 1, 1, 1, 1, 1])] (fun _ _ => False) (fun i => (fun _ _ => False)) (s73_R K)
theorem s73_p1_ok (K : Value → World → Prop) (s : Nat → Value) (w : World) (h : s73_p1 K w) : Tr (s73_p1_den K s w) :=
  tr_simple (P := Try.prog) (codes := [(cd (Try.f73.body.getD .skip) [1, 1, 1, 1, 1, 1, 0]), (cd (Try.f73.body.getD .skip) [1, 1, 1, 1, 1, 1, 1])]) (N := (fun _ _ => False)) (N' := (fun _ _ => False)) (X := (fun i => (fun _ _ => False))) (X' := (fun i => (fun _ _ => False))) (R := s73_R K) (s := s) (w := w) (p := s73_p1 K w) (q := s73_p1_den K s w) tr_id (fun i => tr_id) (by kernel_rfl) (by kernel_rfl) @h
def s73_p2 (K : Value → World → Prop) (B1 : List Value → World → Prop) (t0 t2 t3 t4 t12 t13 t14 t15 : Value) (w : World) : Prop :=
  boI .add t15 (.int .i64 1) (fun t55 w =>
  B1 [t0, t2, t3, t4, t12, t13, t14, t55] w) w
def s73_p2_den (K : Value → World → Prop) (M1 : (Nat → Value) → World → Prop) : (Nat → Value) → World → Prop := denL Try.prog [(cd (Try.f73.body.getD .skip) [1, 1, 1, 1, 1, 0, 1, 0, 0, 1, 1])] M1 (fun i => (bif Nat.beq i 0 then (s73_p1_den K) else (fun _ _ => False))) (s73_R K)
theorem s73_p2_ok (K : Value → World → Prop) (B1 : List Value → World → Prop) (s : Nat → Value) (w : World) (h : s73_p2 K B1 (s 0) (s 2) (s 3) (s 4) (s 12) (s 13) (s 14) (s 15) w) : Tr (s73_p2_den K (fun s w => B1 [s 0, s 2, s 3, s 4, s 12, s 13, s 14, s 15] w) s w) :=
  tr_simple (P := Try.prog) (codes := [(cd (Try.f73.body.getD .skip) [1, 1, 1, 1, 1, 0, 1, 0, 0, 1, 1])]) (N := (fun s w => B1 [s 0, s 2, s 3, s 4, s 12, s 13, s 14, s 15] w)) (N' := (fun s w => B1 [s 0, s 2, s 3, s 4, s 12, s 13, s 14, s 15] w)) (X := (fun i => (bif Nat.beq i 0 then (fun s w => s73_p1 K w) else (fun _ _ => False)))) (X' := (fun i => (bif Nat.beq i 0 then (s73_p1_den K) else (fun _ _ => False)))) (R := s73_R K) (s := s) (w := w) (p := s73_p2 K B1 (s 0) (s 2) (s 3) (s 4) (s 12) (s 13) (s 14) (s 15) w) (q := s73_p2_den K (fun s w => B1 [s 0, s 2, s 3, s 4, s 12, s 13, s 14, s 15] w) s w) tr_id (fun i => (tr_bif (fun s w h => s73_p1_ok K s w @h) tr_id)) (by kernel_rfl) (by kernel_rfl) @h
def s73_p3 (K : Value → World → Prop) (B1 : List Value → World → Prop) (t0 t2 t3 t4 t12 t13 t14 t15 t16 t96 : Value) (w : World) : Prop :=
  ifb t96
  (K (.tuple #[t16, (.bool true)]) w)
  (s73_p2 K B1 t0 t2 t3 t4 t12 t13 t14 t15 w)
def s73_p3_den (K : Value → World → Prop) (M1 : (Nat → Value) → World → Prop) : (Nat → Value) → World → Prop := denL Try.prog [(cd (Try.f73.body.getD .skip) [1, 1, 1, 1, 1, 0, 1, 0, 0, 1, 0, 0, 1, 1, 1, 1, 1])] (s73_p2_den K M1) (fun i => (bif Nat.beq i 1 then (s73_p2_den K M1) else (bif Nat.beq i 0 then (s73_p1_den K) else (fun _ _ => False)))) (s73_R K)
theorem s73_p3_ok (K : Value → World → Prop) (B1 : List Value → World → Prop) (s : Nat → Value) (w : World) (h : s73_p3 K B1 (s 0) (s 2) (s 3) (s 4) (s 12) (s 13) (s 14) (s 15) (s 16) (s 96) w) : Tr (s73_p3_den K (fun s w => B1 [s 0, s 2, s 3, s 4, s 12, s 13, s 14, s 15] w) s w) :=
  tr_simple (P := Try.prog) (codes := [(cd (Try.f73.body.getD .skip) [1, 1, 1, 1, 1, 0, 1, 0, 0, 1, 0, 0, 1, 1, 1, 1, 1])]) (N := (fun s w => s73_p2 K B1 (s 0) (s 2) (s 3) (s 4) (s 12) (s 13) (s 14) (s 15) w)) (N' := (s73_p2_den K (fun s w => B1 [s 0, s 2, s 3, s 4, s 12, s 13, s 14, s 15] w))) (X := (fun i => (bif Nat.beq i 1 then (fun s w => s73_p2 K B1 (s 0) (s 2) (s 3) (s 4) (s 12) (s 13) (s 14) (s 15) w) else (bif Nat.beq i 0 then (fun s w => s73_p1 K w) else (fun _ _ => False))))) (X' := (fun i => (bif Nat.beq i 1 then (s73_p2_den K (fun s w => B1 [s 0, s 2, s 3, s 4, s 12, s 13, s 14, s 15] w)) else (bif Nat.beq i 0 then (s73_p1_den K) else (fun _ _ => False))))) (R := s73_R K) (s := s) (w := w) (p := s73_p3 K B1 (s 0) (s 2) (s 3) (s 4) (s 12) (s 13) (s 14) (s 15) (s 16) (s 96) w) (q := s73_p3_den K (fun s w => B1 [s 0, s 2, s 3, s 4, s 12, s 13, s 14, s 15] w) s w) (fun s w h => s73_p2_ok K B1 s w @h) (fun i => (tr_bif (fun s w h => s73_p2_ok K B1 s w @h) (tr_bif (fun s w h => s73_p1_ok K s w @h) tr_id))) (by kernel_rfl) (by kernel_rfl) @h
def s73_p4_d (K : Value → World → Prop) (B1 : List Value → World → Prop) (t0 t2 t3 t4 t12 t13 t14 t15 t16 : Value) (w0 w : World) : Prop :=
  nck t0 (fun t86 _ =>
  fd 0 t86 (fun t87 _ =>
  fd 2 t87 (fun t88 _ =>
  ixa 3 1 t88 t3 (fun t89 _ =>
  ld1 t89 (fun t90 _ =>
  cl Try.prog 65 #[t0, t16, t3] (fun t94 w =>
  Below w0.heap.size w0 w ∧
  boI .sub t90 t94 (fun t95 w =>
  Below w0.heap.size w0 w ∧
  boI .leq t4 t95 (fun t96 w =>
  s73_p3 K B1 t0 t2 t3 t4 t12 t13 t14 t15 t16 t96 w) w) w) w) w0) w0) w0) w0) w0
def s73_p4 (K : Value → World → Prop) (B1 : List Value → World → Prop) (t0 t2 t3 t4 t12 t13 t14 t15 t16 : Value) (w : World) : Prop := s73_p4_d K B1 t0 t2 t3 t4 t12 t13 t14 t15 t16 (drw w) (drw w)
def s73_p4_den (K : Value → World → Prop) (M1 : (Nat → Value) → World → Prop) : (Nat → Value) → World → Prop := denL Try.prog [(cd (Try.f73.body.getD .skip) [1, 1, 1, 1, 1, 0, 1, 0, 0, 1, 0, 0, 1, 1, 1, 1, 0])] (s73_p3_den K M1) (fun i => (bif Nat.beq i 1 then (s73_p2_den K M1) else (bif Nat.beq i 0 then (s73_p1_den K) else (fun _ _ => False)))) (s73_R K)
theorem s73_p4_ok (K : Value → World → Prop) (B1 : List Value → World → Prop) (s : Nat → Value) (w : World) (h : s73_p4 K B1 (s 0) (s 2) (s 3) (s 4) (s 12) (s 13) (s 14) (s 15) (s 16) w) : Tr (s73_p4_den K (fun s w => B1 [s 0, s 2, s 3, s 4, s 12, s 13, s 14, s 15] w) s w) :=
  tr_draw (P := Try.prog) (ops := (ro (cd (Try.f73.body.getD .skip) [1, 1, 1, 1, 1, 0, 1, 0, 0, 1, 0, 0, 1, 1, 1, 1, 0]))) (ms := [0, 0, 0, 2, 10, 26, 62, 126, 0, 0, 0, 1792, 4094, 8191]) (cs := [0, 1, 2, 3, 4, 5, 6, 7, 8, 9, 10]) (N := (fun s w => s73_p3 K B1 (s 0) (s 2) (s 3) (s 4) (s 12) (s 13) (s 14) (s 15) (s 16) (s 96) w)) (N' := (s73_p3_den K (fun s w => B1 [s 0, s 2, s 3, s 4, s 12, s 13, s 14, s 15] w))) (s := s) (w := w) (p := s73_p4 K B1 (s 0) (s 2) (s 3) (s 4) (s 12) (s 13) (s 14) (s 15) (s 16) w) (q := s73_p4_den K (fun s w => B1 [s 0, s 2, s 3, s 4, s 12, s 13, s 14, s 15] w) s w) (by kernel_rfl) (by kernel_rfl) (fun s w h => s73_p3_ok K B1 s w @h) (by kernel_rfl) (by kernel_rfl) @h
def s73_p5 (K : Value → World → Prop) (B1 : List Value → World → Prop) (t0 t2 t3 t4 t12 t13 t14 t15 : Value) (w : World) : Prop :=
  cl Try.prog 77 #[t0, t14] (fun t69 w =>
  nck t0 (fun t72 w =>
  fd 0 t72 (fun t73 w =>
  fd 1 t73 (fun t74 w =>
  ld1 t74 (fun t75 w =>
  boI .lss t13 t75 (fun t76 w =>
  ifb t76
  (s73_p2 K B1 t0 t2 t3 t4 t12 t13 t69 t15 w)
  (nck t0 (fun t79 w =>
  fd 5 t79 (fun t80 w =>
  ld1 t80 (fun t81 w =>
  boI .sub t15 t81 (fun t82 w =>
  s73_p4 K B1 t0 t2 t3 t4 t12 t13 t69 t15 t82 w) w) w) w) w)) w) w) w) w) w) w
def s73_p5_den (K : Value → World → Prop) (M1 : (Nat → Value) → World → Prop) : (Nat → Value) → World → Prop := denL Try.prog [(cd (Try.f73.body.getD .skip) [1, 1, 1, 1, 1, 0, 1, 0, 0, 1, 0, 0, 1, 0]), (cd (Try.f73.body.getD .skip) [1, 1, 1, 1, 1, 0, 1, 0, 0, 1, 0, 0, 1, 1, 0, 0]), (cd (Try.f73.body.getD .skip) [1, 1, 1, 1, 1, 0, 1, 0, 0, 1, 0, 0, 1, 1, 0, 1]), (cd (Try.f73.body.getD .skip) [1, 1, 1, 1, 1, 0, 1, 0, 0, 1, 0, 0, 1, 1, 1, 0])] (s73_p4_den K M1) (fun i => (bif Nat.beq i 1 then (s73_p2_den K M1) else (bif Nat.beq i 0 then (s73_p1_den K) else (fun _ _ => False)))) (s73_R K)
theorem s73_p5_ok (K : Value → World → Prop) (B1 : List Value → World → Prop) (s : Nat → Value) (w : World) (h : s73_p5 K B1 (s 0) (s 2) (s 3) (s 4) (s 12) (s 13) (s 14) (s 15) w) : Tr (s73_p5_den K (fun s w => B1 [s 0, s 2, s 3, s 4, s 12, s 13, s 14, s 15] w) s w) :=
  tr_simple (P := Try.prog) (codes := [(cd (Try.f73.body.getD .skip) [1, 1, 1, 1, 1, 0, 1, 0, 0, 1, 0, 0, 1, 0]), (cd (Try.f73.body.getD .skip) [1, 1, 1, 1, 1, 0, 1, 0, 0, 1, 0, 0, 1, 1, 0, 0]), (cd (Try.f73.body.getD .skip) [1, 1, 1, 1, 1, 0, 1, 0, 0, 1, 0, 0, 1, 1, 0, 1]), (cd (Try.f73.body.getD .skip) [1, 1, 1, 1, 1, 0, 1, 0, 0, 1, 0, 0, 1, 1, 1, 0])]) (N := (fun s w => s73_p4 K B1 (s 0) (s 2) (s 3) (s 4) (s 12) (s 13) (s 14) (s 15) (s 16) w)) (N' := (s73_p4_den K (fun s w => B1 [s 0, s 2, s 3, s 4, s 12, s 13, s 14, s 15] w))) (X := (fun i => (bif Nat.beq i 1 then (fun s w => s73_p2 K B1 (s 0) (s 2) (s 3) (s 4) (s 12) (s 13) (s 14) (s 15) w) else (bif Nat.beq i 0 then (fun s w => s73_p1 K w) else (fun _ _ => False))))) (X' := (fun i => (bif Nat.beq i 1 then (s73_p2_den K (fun s w => B1 [s 0, s 2, s 3, s 4, s 12, s 13, s 14, s 15] w)) else (bif Nat.beq i 0 then (s73_p1_den K) else (fun _ _ => False))))) (R := s73_R K) (s := s) (w := w) (p := s73_p5 K B1 (s 0) (s 2) (s 3) (s 4) (s 12) (s 13) (s 14) (s 15) w) (q := s73_p5_den K (fun s w => B1 [s 0, s 2, s 3, s 4, s 12, s 13, s 14, s 15] w) s w) (fun s w h => s73_p4_ok K B1 s w @h) (fun i => (tr_bif (fun s w h => s73_p2_ok K B1 s w @h) (tr_bif (fun s w h => s73_p1_ok K s w @h) tr_id))) (by kernel_rfl) (by kernel_rfl) @h
def s73_p6 (K : Value → World → Prop) (B1 : List Value → World → Prop) (t0 t2 t3 t4 t12 t13 t14 t15 : Value) (w : World) : Prop :=
  nck t0 (fun t57 w =>
  fd 7 t57 (fun t58 w =>
  ld1 t58 (fun t59 w =>
  ixs 1 t59 t14 (fun t61 w =>
  ld1 t61 (fun t62 w =>
  boI .leq t62 t12 (fun t64 w =>
  ifb t64
  (boI .add t13 (.int .i64 1) (fun t66 w =>
  s73_p5 K B1 t0 t2 t3 t4 t12 t66 t14 t15 w) w)
  (s73_p5 K B1 t0 t2 t3 t4 t12 (.int .i64 0) t14 t15 w)) w) w) w) w) w) w
def s73_p6_den (K : Value → World → Prop) (M1 : (Nat → Value) → World → Prop) : (Nat → Value) → World → Prop := denL Try.prog [(cd (Try.f73.body.getD .skip) [1, 1, 1, 1, 1, 0, 1, 0, 0, 1, 0, 0, 0, 0]), (cd (Try.f73.body.getD .skip) [1, 1, 1, 1, 1, 0, 1, 0, 0, 1, 0, 0, 0, 1])] (s73_p5_den K M1) (fun i => (bif Nat.beq i 1 then (s73_p2_den K M1) else (bif Nat.beq i 0 then (s73_p1_den K) else (fun _ _ => False)))) (s73_R K)
theorem s73_p6_ok (K : Value → World → Prop) (B1 : List Value → World → Prop) (s : Nat → Value) (w : World) (h : s73_p6 K B1 (s 0) (s 2) (s 3) (s 4) (s 12) (s 13) (s 14) (s 15) w) : Tr (s73_p6_den K (fun s w => B1 [s 0, s 2, s 3, s 4, s 12, s 13, s 14, s 15] w) s w) :=
  tr_simple (P := Try.prog) (codes := [(cd (Try.f73.body.getD .skip) [1, 1, 1, 1, 1, 0, 1, 0, 0, 1, 0, 0, 0, 0]), (cd (Try.f73.body.getD .skip) [1, 1, 1, 1, 1, 0, 1, 0, 0, 1, 0, 0, 0, 1])]) (N := (fun s w => s73_p5 K B1 (s 0) (s 2) (s 3) (s 4) (s 12) (s 13) (s 14) (s 15) w)) (N' := (s73_p5_den K (fun s w => B1 [s 0, s 2, s 3, s 4, s 12, s 13, s 14, s 15] w))) (X := (fun i => (bif Nat.beq i 1 then (fun s w => s73_p2 K B1 (s 0) (s 2) (s 3) (s 4) (s 12) (s 13) (s 14) (s 15) w) else (bif Nat.beq i 0 then (fun s w => s73_p1 K w) else (fun _ _ => False))))) (X' := (fun i => (bif Nat.beq i 1 then (s73_p2_den K (fun s w => B1 [s 0, s 2, s 3, s 4, s 12, s 13, s 14, s 15] w)) else (bif Nat.beq i 0 then (s73_p1_den K) else (fun _ _ => False))))) (R := s73_R K) (s := s) (w := w) (p := s73_p6 K B1 (s 0) (s 2) (s 3) (s 4) (s 12) (s 13) (s 14) (s 15) w) (q := s73_p6_den K (fun s w => B1 [s 0, s 2, s 3, s 4, s 12, s 13, s 14, s 15] w) s w) (fun s w h => s73_p5_ok K B1 s w @h) (fun i => (tr_bif (fun s w h => s73_p2_ok K B1 s w @h) (tr_bif (fun s w h => s73_p1_ok K s w @h) tr_id))) (by kernel_rfl) (by kernel_rfl) @h
def s73_p7 (K : Value → World → Prop) (B1 : List Value → World → Prop) (t0 t2 t3 t4 t12 t13 t14 t15 : Value) (w : World) : Prop :=
  nck t0 (fun t49 w =>
  fd 5 t49 (fun t50 w =>
  ld1 t50 (fun t51 w =>
  boI .add t2 t51 (fun t52 w =>
  boI .leq t15 t52 (fun t53 w =>
  ifb t53
  (s73_p6 K B1 t0 t2 t3 t4 t12 t13 t14 t15 w)
  (s73_p1 K w)) w) w) w) w) w
def s73_p7_den (K : Value → World → Prop) (M1 : (Nat → Value) → World → Prop) : (Nat → Value) → World → Prop := denL Try.prog [(cd (Try.f73.body.getD .skip) [1, 1, 1, 1, 1, 0, 1, 0, 0, 0, 0]), (cd (Try.f73.body.getD .skip) [1, 1, 1, 1, 1, 0, 1, 0, 0, 0, 1])] (s73_p6_den K M1) (fun i => (bif Nat.beq i 0 then (s73_p1_den K) else (fun _ _ => False))) (s73_R K)
theorem s73_p7_ok (K : Value → World → Prop) (B1 : List Value → World → Prop) (s : Nat → Value) (w : World) (h : s73_p7 K B1 (s 0) (s 2) (s 3) (s 4) (s 12) (s 13) (s 14) (s 15) w) : Tr (s73_p7_den K (fun s w => B1 [s 0, s 2, s 3, s 4, s 12, s 13, s 14, s 15] w) s w) :=
  tr_simple (P := Try.prog) (codes := [(cd (Try.f73.body.getD .skip) [1, 1, 1, 1, 1, 0, 1, 0, 0, 0, 0]), (cd (Try.f73.body.getD .skip) [1, 1, 1, 1, 1, 0, 1, 0, 0, 0, 1])]) (N := (fun s w => s73_p6 K B1 (s 0) (s 2) (s 3) (s 4) (s 12) (s 13) (s 14) (s 15) w)) (N' := (s73_p6_den K (fun s w => B1 [s 0, s 2, s 3, s 4, s 12, s 13, s 14, s 15] w))) (X := (fun i => (bif Nat.beq i 0 then (fun s w => s73_p1 K w) else (fun _ _ => False)))) (X' := (fun i => (bif Nat.beq i 0 then (s73_p1_den K) else (fun _ _ => False)))) (R := s73_R K) (s := s) (w := w) (p := s73_p7 K B1 (s 0) (s 2) (s 3) (s 4) (s 12) (s 13) (s 14) (s 15) w) (q := s73_p7_den K (fun s w => B1 [s 0, s 2, s 3, s 4, s 12, s 13, s 14, s 15] w) s w) (fun s w h => s73_p6_ok K B1 s w @h) (fun i => (tr_bif (fun s w h => s73_p1_ok K s w @h) tr_id)) (by kernel_rfl) (by kernel_rfl) @h
def s73_p8_F (K : Value → World → Prop) (B1 : List Value → World → Prop) (l : List Value) (w : World) : Prop :=
  match l with
  | [t0, t2, t3, t4, t12, t13, t14, t15] => s73_p7 K B1 t0 t2 t3 t4 t12 t13 t14 t15 w
  | _ => False
theorem s73_p8_Fe {K : Value → World → Prop} {B1 : List Value → World → Prop} {t0 t2 t3 t4 t12 t13 t14 t15 : Value} {w : World} : s73_p8_F K B1 [t0, t2, t3, t4, t12, t13, t14, t15] w = s73_p7 K B1 t0 t2 t3 t4 t12 t13 t14 t15 w := by kernel_rfl
def s73_p8 (K : Value → World → Prop) (t0 t2 t3 t4 t12 t13 t14 t15 : Value) (w : World) : Prop :=
  LoopL (s73_p8_F K) [t0, t2, t3, t4, t12, t13, t14, t15] w
def s73_p8_den (K : Value → World → Prop) : (Nat → Value) → World → Prop := fun s w => LoopP (fun M1 s w => s73_p7_den K M1 s w) s w
theorem s73_p8_ok (K : Value → World → Prop) (s : Nat → Value) (w : World) (h : s73_p8 K (s 0) (s 2) (s 3) (s 4) (s 12) (s 13) (s 14) (s 15) w) : Tr (s73_p8_den K s w) :=
  tr_loop (G := fun N' s w => s73_p7_den K N' s w) (F := s73_p8_F K) (sel := fun s => [s 0, s 2, s 3, s 4, s 12, s 13, s 14, s 15]) (s := s) (w := w) (p := s73_p8 K (s 0) (s 2) (s 3) (s 4) (s 12) (s 13) (s 14) (s 15) w) (q := s73_p8_den K s w) (fun B s w h => s73_p7_ok K B s w @h) (by kernel_rfl) (by kernel_rfl) @h
def s73_p9 (K : Value → World → Prop) (t0 t1 t2 t3 t4 : Value) (w : World) : Prop :=
  nck t0 (fun t19 w =>
  fd 0 t19 (fun t20 w =>
  fd 0 t20 (fun t21 w =>
  ld1 t21 (fun t22 w =>
  boI .gtr t4 t22 (fun t23 w =>
  gd t23 false (fun K w => K t4 w) (fun t25 w =>
  gd t23 false (fun K w => K t0 w) (fun t26 w =>
  gd t23 false (fun K w => K t3 w) (fun t27 w =>
  gd t23 false (nck t26) (fun t28 w =>
  gd t23 false (fd 0 t28) (fun t29 w =>
  gd t23 false (fd 2 t29) (fun t30 w =>
  gd t23 false (ixa 3 1 t30 t27) (fun t31 w =>
  gd t23 false (ld1 t31) (fun t32 w =>
  gd t23 false (boI .gtr t25 t32) (fun t33 w =>
  pk t23 (.bool true) t33 (fun t34 w =>
  ifb t34
  (K (.tuple #[(.int .i64 0), (.bool false)]) w)
  (nck t0 (fun t36 w =>
  fd 0 t36 (fun t37 w =>
  fd 0 t37 (fun t38 w =>
  ld1 t38 (fun t39 w =>
  boI .sub t39 t4 (fun t41 w =>
  cl Try.prog 64 #[t0, t1] (fun t44 w =>
  s73_p8 K t0 t2 t3 t4 t41 (.int .i64 0) t44 t1 w) w) w) w) w) w) w)) w) w) w) w) w) w) w) w) w) w) w) w) w) w) w
def s73_p9_den (K : Value → World → Prop) : (Nat → Value) → World → Prop := denL Try.prog [(cd (Try.f73.body.getD .skip) [0]), (cd (Try.f73.body.getD .skip) [1, 0, 0]), (cd (Try.f73.body.getD .skip) [1, 0, 1]), (cd (Try.f73.body.getD .skip) [1, 1, 0]), (cd (Try.f73.body.getD .skip) [1, 1, 1, 0]), (cd (Try.f73.body.getD .skip) [1, 1, 1, 1, 0]), (cd (Try.f73.body.getD .skip) [1, 1, 1, 1, 1, 0, 0])] (s73_p8_den K) (fun i => (fun _ _ => False)) (s73_R K)
theorem s73_p9_ok (K : Value → World → Prop) (s : Nat → Value) (w : World) (h : s73_p9 K (s 0) (s 1) (s 2) (s 3) (s 4) w) : Tr (s73_p9_den K s w) :=
  tr_simple (P := Try.prog) (codes := [(cd (Try.f73.body.getD .skip) [0]), (cd (Try.f73.body.getD .skip) [1, 0, 0]), (cd (Try.f73.body.getD .skip) [1, 0, 1]), (cd (Try.f73.body.getD .skip) [1, 1, 0]), (cd (Try.f73.body.getD .skip) [1, 1, 1, 0]), (cd (Try.f73.body.getD .skip) [1, 1, 1, 1, 0]), (cd (Try.f73.body.getD .skip) [1, 1, 1, 1, 1, 0, 0])]) (N := (fun s w => s73_p8 K (s 0) (s 2) (s 3) (s 4) (s 12) (s 13) (s 14) (s 15) w)) (N' := (s73_p8_den K)) (X := (fun i => (fun _ _ => False))) (X' := (fun i => (fun _ _ => False))) (R := s73_R K) (s := s) (w := w) (p := s73_p9 K (s 0) (s 1) (s 2) (s 3) (s 4) w) (q := s73_p9_den K s w) (fun s w h => s73_p8_ok K s w @h) (fun i => tr_id) (by kernel_rfl) (by kernel_rfl) @h
/-- the call, from the text -/
theorem c73 (t0 t1 t2 t3 t4 : Value) {K : Value → World → Prop} {w : World} (h : s73_p9 K t0 t1 t2 t3 t4 w) : cl Try.prog 73 #[t0, t1, t2, t3, t4] K w :=
  calls_of_tr (c := (Try.f73.body.getD .skip)) (fn := Try.f73) (q := s73_p9_den K (st0 #[t0, t1, t2, t3, t4]) w) Try.func73 (by kernel_rfl) (by kernel_rfl) (Nat.le_of_ble_eq_true (by kernel_rfl)) (by kernel_rfl) (by kernel_rfl) (s73_p9_ok K (st0 #[t0, t1, t2, t3, t4]) w @h)

/-! ### function 74 : (*e2e.slotsm.Tables).args -/
def s74_R (K : Value → World → Prop) (s : Nat → Value) (w : World) : Prop := retv Try.prog s Try.f74.results.toList (fun vs => K (pack vs) w) w
def s74_p1 (K : Value → World → Prop) (t0 t1 t2 t3 : Value) (w : World) : Prop :=
  boI .lss t1 (.int .i64 0) (fun t10 w =>
  gd t10 false (fun K w => K t1 w) (fun t12 w =>
  gd t10 false (fun K w => K t0 w) (fun t13 w =>
  gd t10 false (nck t13) (fun t14 w =>
  gd t10 false (fd 0 t14) (fun t15 w =>
  gd t10 false (fd 2 t15) (fun t16 w =>
  gd t10 false (ld1 t16) (fun t17 w =>
  gd t10 false (lnS t17) (fun t18 w =>
  gd t10 false (boI .geq t12 t18) (fun t19 w =>
  pk t10 (.bool true) t19 (fun t20 w =>
  ifb t20
  (K (.int .i64 1) w)
  (boI .lss t2 (.int .i64 0) (fun t22 w =>
  gd t22 false (fun K w => K t2 w) (fun t24 w =>
  gd t22 false (boI .geq t24 (.int .i64 3)) (fun t25 w =>
  pk t22 (.bool true) t25 (fun t26 w =>
  ifb t26
  (K (.int .i64 2) w)
  (boI .lss t3 (.int .i64 1) (fun t28 w =>
  ifb t28
  (K (.int .i64 3) w)
  (K (.int .i64 0) w)) w)) w) w) w) w)) w) w) w) w) w) w) w) w) w) w
def s74_p1_den (K : Value → World → Prop) : (Nat → Value) → World → Prop := denL Try.prog [(cd (Try.f74.body.getD .skip) [0]), (cd (Try.f74.body.getD .skip) [1, 0, 0]), (cd (Try.f74.body.getD .skip) [1, 0, 1]), (cd (Try.f74.body.getD .skip) [1, 1, 0, 0]), (cd (Try.f74.body.getD .skip) [1, 1, 0, 1]), (cd (Try.f74.body.getD .skip) [1, 1, 1, 0, 0]), (cd (Try.f74.body.getD .skip) [1, 1, 1, 0, 1]), (cd (Try.f74.body.getD .skip) [1, 1, 1, 1, 0]), (cd (Try.f74.body.getD .skip) [1, 1, 1, 1, 1])] (fun _ _ => False) (fun i => (fun _ _ => False)) (s74_R K)
theorem s74_p1_ok (K : Value → World → Prop) (s : Nat → Value) (w : World) (h : s74_p1 K (s 0) (s 1) (s 2) (s 3) w) : Tr (s74_p1_den K s w) :=
  tr_simple (P := Try.prog) (codes := [(cd (Try.f74.body.getD .skip) [0]), (cd (Try.f74.body.getD .skip) [1, 0, 0]), (cd (Try.f74.body.getD .skip) [1, 0, 1]), (cd (Try.f74.body.getD .skip) [1, 1, 0, 0]), (cd (Try.f74.body.getD .skip) [1, 1, 0, 1]), (cd (Try.f74.body.getD .skip) [1, 1, 1, 0, 0]), (cd (Try.f74.body.getD .skip) [1, 1, 1, 0, 1]), (cd (Try.f74.body.getD .skip) [1, 1, 1, 1, 0]), (cd (Try.f74.body.getD .skip) [1, 1, 1, 1, 1])]) (N := (fun _ _ => False)) (N' := (fun _ _ => False)) (X := (fun i => (fun _ _ => False))) (X' := (fun i => (fun _ _ => False))) (R := s74_R K) (s := s) (w := w) (p := s74_p1 K (s 0) (s 1) (s 2) (s 3) w) (q := s74_p1_den K s w) tr_id (fun i => tr_id) (by kernel_rfl) (by kernel_rfl) @h
/-- the call, from the text -/
theorem c74 (t0 t1 t2 t3 : Value) {K : Value → World → Prop} {w : World} (h : s74_p1 K t0 t1 t2 t3 w) : cl Try.prog 74 #[t0, t1, t2, t3] K w :=
  calls_of_tr (c := (Try.f74.body.getD .skip)) (fn := Try.f74) (q := s74_p1_den K (st0 #[t0, t1, t2, t3]) w) Try.func74 (by kernel_rfl) (by kernel_rfl) (Nat.le_of_ble_eq_true (by kernel_rfl)) (by kernel_rfl) (by kernel_rfl) (s74_p1_ok K (st0 #[t0, t1, t2, t3]) w @h)

/-! ### function 75 : (*e2e.slotsm.Tables).Kept -/
def s75_R (K : Value → World → Prop) (s : Nat → Value) (w : World) : Prop := retv Try.prog s Try.f75.results.toList (fun vs => K (pack vs) w) w
def s75_p1 (K : Value → World → Prop) (t6 : Value) (w : World) : Prop :=
  K t6 w
def s75_p1_den (K : Value → World → Prop) : (Nat → Value) → World → Prop := denL Try.prog [(cd (Try.f75.body.getD .skip) [1, 1])] (fun _ _ => False) (fun i => (fun _ _ => False)) (s75_R K)
theorem s75_p1_ok (K : Value → World → Prop) (s : Nat → Value) (w : World) (h : s75_p1 K (s 6) w) : Tr (s75_p1_den K s w) :=
  tr_simple (P := Try.prog) (codes := [(cd (Try.f75.body.getD .skip) [1, 1])]) (N := (fun _ _ => False)) (N' := (fun _ _ => False)) (X := (fun i => (fun _ _ => False))) (X' := (fun i => (fun _ _ => False))) (R := s75_R K) (s := s) (w := w) (p := s75_p1 K (s 6) w) (q := s75_p1_den K s w) tr_id (fun i => tr_id) (by kernel_rfl) (by kernel_rfl) @h
def s75_p2_d (K : Value → World → Prop) (t0 t1 t2 : Value) (w0 w : World) : Prop :=
  nck t0 (fun t8 _ =>
  fd 3 t8 (fun t9 _ =>
  ld1 t9 (fun t10 _ =>
  nck t0 (fun t12 _ =>
  fd 0 t12 (fun t13 _ =>
  fd 2 t13 (fun t14 _ =>
  ld1 t14 (fun t15 _ =>
  ixs 5 t15 t1 (fun t17 _ =>
  fd 1 t17 (fun t18 _ =>
  ld1 t18 (fun t19 _ =>
  boI .sub t10 t19 (fun t20 _ =>
  boI .lss t20 t2 (fun t22 _ =>
  gd t22 true (fun K w => K t2 w) (fun t24 _ =>
  gd t22 true (fun K w => K t0 w) (fun t25 _ =>
  gd t22 true (nck t25) (fun t26 _ =>
  gd t22 true (fd 3 t26) (fun t27 _ =>
  gd t22 true (ld1 t27) (fun t28 _ =>
  gd t22 true (fun K w => K t0 w) (fun t29 _ =>
  gd t22 true (nck t29) (fun t30 _ =>
  gd t22 true (fd 0 t30) (fun t31 _ =>
  gd t22 true (fd 0 t31) (fun t32 _ =>
  gd t22 true (ld1 t32) (fun t33 _ =>
  gd t22 true (boI .add t28 t33) (fun t34 _ =>
  gd t22 true (boI .lss t24 t34) (fun t35 _ =>
  pk t22 t35 (.bool false) (fun t36 _ =>
  s75_p1 K t36 w) w0) w0) w0) w0) w0) w0) w0) w0) w0) w0) w0) w0) w0) w0) w0) w0) w0) w0) w0) w0) w0) w0) w0) w0) w0
def s75_p2 (K : Value → World → Prop) (t0 t1 t2 : Value) (w : World) : Prop := s75_p2_d K t0 t1 t2 (drw w) (drw w)
def s75_p2_den (K : Value → World → Prop) : (Nat → Value) → World → Prop := denL Try.prog [(cd (Try.f75.body.getD .skip) [1, 0])] (s75_p1_den K) (fun i => (fun _ _ => False)) (s75_R K)
theorem s75_p2_ok (K : Value → World → Prop) (s : Nat → Value) (w : World) (h : s75_p2 K (s 0) (s 1) (s 2) w) : Tr (s75_p2_den K s w) :=
  tr_draw (P := Try.prog) (ops := (ro (cd (Try.f75.body.getD .skip) [1, 0]))) (ms := [0, 1, 3, 7, 0, 16, 48, 112, 240, 0, 1008, 2032, 4080, 8191, 0, 32767, 65535, 131071, 131071, 393215, 917503, 1966079, 131071, 4325375, 12713983, 29491199, 63045631, 134086655, 268435455, 536870911, 1073741823]) (cs := [0, 1, 2, 3, 4, 5, 6, 7, 8, 9, 10, 11, 12, 13, 14, 15, 16, 17, 18, 19, 20, 21, 22, 23, 24, 25, 26, 27, 28, 29, 30]) (N := (fun s w => s75_p1 K (s 6) w)) (N' := (s75_p1_den K)) (s := s) (w := w) (p := s75_p2 K (s 0) (s 1) (s 2) w) (q := s75_p2_den K s w) (by kernel_rfl) (by kernel_rfl) (fun s w h => s75_p1_ok K s w @h) (by kernel_rfl) (by kernel_rfl) @h
def s75_p3 (K : Value → World → Prop) (t0 t1 t2 : Value) (w : World) : Prop :=
  s75_p2 K t0 t1 t2 w
def s75_p3_den (K : Value → World → Prop) : (Nat → Value) → World → Prop := denL Try.prog [(cd (Try.f75.body.getD .skip) [0])] (s75_p2_den K) (fun i => (fun _ _ => False)) (s75_R K)
theorem s75_p3_ok (K : Value → World → Prop) (s : Nat → Value) (w : World) (h : s75_p3 K (s 0) (s 1) (s 2) w) : Tr (s75_p3_den K s w) :=
  tr_simple (P := Try.prog) (codes := [(cd (Try.f75.body.getD .skip) [0])]) (N := (fun s w => s75_p2 K (s 0) (s 1) (s 2) w)) (N' := (s75_p2_den K)) (X := (fun i => (fun _ _ => False))) (X' := (fun i => (fun _ _ => False))) (R := s75_R K) (s := s) (w := w) (p := s75_p3 K (s 0) (s 1) (s 2) w) (q := s75_p3_den K s w) (fun s w h => s75_p2_ok K s w @h) (fun i => tr_id) (by kernel_rfl) (by kernel_rfl) @h
/-- the call, from the text -/
theorem c75 (t0 t1 t2 : Value) {K : Value → World → Prop} {w : World} (h : s75_p3 K t0 t1 t2 w) : cl Try.prog 75 #[t0, t1, t2] K w :=
  calls_of_tr (c := (Try.f75.body.getD .skip)) (fn := Try.f75) (q := s75_p3_den K (st0 #[t0, t1, t2]) w) Try.func75 (by kernel_rfl) (by kernel_rfl) (Nat.le_of_ble_eq_true (by kernel_rfl)) (by kernel_rfl) (by kernel_rfl) (s75_p3_ok K (st0 #[t0, t1, t2]) w @h)

/-! ### function 76 : (*e2e.slotsm.Tables).Open -/
def s76_R (K : Value → World → Prop) (s : Nat → Value) (w : World) : Prop := retv Try.prog s Try.f76.results.toList (fun vs => K (pack vs) w) w
def s76_p1 (K : Value → World → Prop) (t4 : Value) (w : World) : Prop :=
  K t4 w
def s76_p1_den (K : Value → World → Prop) : (Nat → Value) → World → Prop := denL Try.prog [(cd (Try.f76.body.getD .skip) [1, 1])] (fun _ _ => False) (fun i => (fun _ _ => False)) (s76_R K)
theorem s76_p1_ok (K : Value → World → Prop) (s : Nat → Value) (w : World) (h : s76_p1 K (s 4) w) : Tr (s76_p1_den K s w) :=
  tr_simple (P := Try.prog) (codes := [(cd (Try.f76.body.getD .skip) [1, 1])]) (N := (fun _ _ => False)) (N' := (fun _ _ => False)) (X := (fun i => (fun _ _ => False))) (X' := (fun i => (fun _ _ => False))) (R := s76_R K) (s := s) (w := w) (p := s76_p1 K (s 4) w) (q := s76_p1_den K s w) tr_id (fun i => tr_id) (by kernel_rfl) (by kernel_rfl) @h
def s76_p2_d (K : Value → World → Prop) (t0 t1 : Value) (w0 w : World) : Prop :=
  nck t0 (fun t6 _ =>
  fd 3 t6 (fun t7 _ =>
  ld1 t7 (fun t8 _ =>
  boI .leq t8 t1 (fun t10 _ =>
  gd t10 true (fun K w => K t1 w) (fun t12 _ =>
  gd t10 true (fun K w => K t0 w) (fun t13 _ =>
  gd t10 true (nck t13) (fun t14 _ =>
  gd t10 true (fd 3 t14) (fun t15 _ =>
  gd t10 true (ld1 t15) (fun t16 _ =>
  gd t10 true (fun K w => K t0 w) (fun t17 _ =>
  gd t10 true (nck t17) (fun t18 _ =>
  gd t10 true (fd 0 t18) (fun t19 _ =>
  gd t10 true (fd 0 t19) (fun t20 _ =>
  gd t10 true (ld1 t20) (fun t21 _ =>
  gd t10 true (boI .add t16 t21) (fun t22 _ =>
  gd t10 true (boI .lss t12 t22) (fun t23 _ =>
  pk t10 t23 (.bool false) (fun t24 _ =>
  s76_p1 K t24 w) w0) w0) w0) w0) w0) w0) w0) w0) w0) w0) w0) w0) w0) w0) w0) w0) w0
def s76_p2 (K : Value → World → Prop) (t0 t1 : Value) (w : World) : Prop := s76_p2_d K t0 t1 (drw w) (drw w)
def s76_p2_den (K : Value → World → Prop) : (Nat → Value) → World → Prop := denL Try.prog [(cd (Try.f76.body.getD .skip) [1, 0])] (s76_p1_den K) (fun i => (fun _ _ => False)) (s76_R K)
theorem s76_p2_ok (K : Value → World → Prop) (s : Nat → Value) (w : World) (h : s76_p2 K (s 0) (s 1) w) : Tr (s76_p2_den K s w) :=
  tr_draw (P := Try.prog) (ops := (ro (cd (Try.f76.body.getD .skip) [1, 0]))) (ms := [0, 1, 3, 7, 0, 31, 63, 127, 127, 383, 895, 1919, 127, 4223, 12415, 28799, 61567, 130943, 262143, 524287, 1048575]) (cs := [0, 1, 2, 3, 4, 5, 6, 7, 8, 9, 10, 11, 12, 13, 14, 15, 16, 17, 18, 19, 20]) (N := (fun s w => s76_p1 K (s 4) w)) (N' := (s76_p1_den K)) (s := s) (w := w) (p := s76_p2 K (s 0) (s 1) w) (q := s76_p2_den K s w) (by kernel_rfl) (by kernel_rfl) (fun s w h => s76_p1_ok K s w @h) (by kernel_rfl) (by kernel_rfl) @h
def s76_p3 (K : Value → World → Prop) (t0 t1 : Value) (w : World) : Prop :=
  s76_p2 K t0 t1 w
def s76_p3_den (K : Value → World → Prop) : (Nat → Value) → World → Prop := denL Try.prog [(cd (Try.f76.body.getD .skip) [0])] (s76_p2_den K) (fun i => (fun _ _ => False)) (s76_R K)
theorem s76_p3_ok (K : Value → World → Prop) (s : Nat → Value) (w : World) (h : s76_p3 K (s 0) (s 1) w) : Tr (s76_p3_den K s w) :=
  tr_simple (P := Try.prog) (codes := [(cd (Try.f76.body.getD .skip) [0])]) (N := (fun s w => s76_p2 K (s 0) (s 1) w)) (N' := (s76_p2_den K)) (X := (fun i => (fun _ _ => False))) (X' := (fun i => (fun _ _ => False))) (R := s76_R K) (s := s) (w := w) (p := s76_p3 K (s 0) (s 1) w) (q := s76_p3_den K s w) (fun s w h => s76_p2_ok K s w @h) (fun i => tr_id) (by kernel_rfl) (by kernel_rfl) @h
/-- the call, from the text -/
theorem c76 (t0 t1 : Value) {K : Value → World → Prop} {w : World} (h : s76_p3 K t0 t1 w) : cl Try.prog 76 #[t0, t1] K w :=
  calls_of_tr (c := (Try.f76.body.getD .skip)) (fn := Try.f76) (q := s76_p3_den K (st0 #[t0, t1]) w) Try.func76 (by kernel_rfl) (by kernel_rfl) (Nat.le_of_ble_eq_true (by kernel_rfl)) (by kernel_rfl) (by kernel_rfl) (s76_p3_ok K (st0 #[t0, t1]) w @h)

/-! ### function 77 : (*e2e.slots.table).next -/
def s77_R (K : Value → World → Prop) (s : Nat → Value) (w : World) : Prop := retv Try.prog s Try.f77.results.toList (fun vs => K (pack vs) w) w
def s77_p1 (K : Value → World → Prop) (t0 t1 : Value) (w : World) : Prop :=
  boI .add t1 (.int .i64 1) (fun t6 w =>
  nck t0 (fun t9 w =>
  fd 6 t9 (fun t10 w =>
  ld1 t10 (fun t11 w =>
  boI .eql t6 t11 (fun t12 w =>
  ifb t12
  (K (.int .i64 0) w)
  (K t6 w)) w) w) w) w) w
def s77_p1_den (K : Value → World → Prop) : (Nat → Value) → World → Prop := denL Try.prog [(cd (Try.f77.body.getD .skip) [0]), (cd (Try.f77.body.getD .skip) [1, 0]), (cd (Try.f77.body.getD .skip) [1, 1, 0, 0]), (cd (Try.f77.body.getD .skip) [1, 1, 0, 1]), (cd (Try.f77.body.getD .skip) [1, 1, 1, 0]), (cd (Try.f77.body.getD .skip) [1, 1, 1, 1])] (fun _ _ => False) (fun i => (fun _ _ => False)) (s77_R K)
theorem s77_p1_ok (K : Value → World → Prop) (s : Nat → Value) (w : World) (h : s77_p1 K (s 0) (s 1) w) : Tr (s77_p1_den K s w) :=
  tr_simple (P := Try.prog) (codes := [(cd (Try.f77.body.getD .skip) [0]), (cd (Try.f77.body.getD .skip) [1, 0]), (cd (Try.f77.body.getD .skip) [1, 1, 0, 0]), (cd (Try.f77.body.getD .skip) [1, 1, 0, 1]), (cd (Try.f77.body.getD .skip) [1, 1, 1, 0]), (cd (Try.f77.body.getD .skip) [1, 1, 1, 1])]) (N := (fun _ _ => False)) (N' := (fun _ _ => False)) (X := (fun i => (fun _ _ => False))) (X' := (fun i => (fun _ _ => False))) (R := s77_R K) (s := s) (w := w) (p := s77_p1 K (s 0) (s 1) w) (q := s77_p1_den K s w) tr_id (fun i => tr_id) (by kernel_rfl) (by kernel_rfl) @h
/-- the call, from the text -/
theorem c77 (t0 t1 : Value) {K : Value → World → Prop} {w : World} (h : s77_p1 K t0 t1 w) : cl Try.prog 77 #[t0, t1] K w :=
  calls_of_tr (c := (Try.f77.body.getD .skip)) (fn := Try.f77) (q := s77_p1_den K (st0 #[t0, t1]) w) Try.func77 (by kernel_rfl) (by kernel_rfl) (Nat.le_of_ble_eq_true (by kernel_rfl)) (by kernel_rfl) (by kernel_rfl) (s77_p1_ok K (st0 #[t0, t1]) w @h)

end Go.Proofs.Qxb6500897a
