import Derived.Test.Qxb6500896aGreatDoorProg
import Derived.Test.Qxb6500896aGreatDoorShTr
namespace Go.Proofs.Qxb6500896aGreatDoor
open Go.Sh Go.RowKit
set_option linter.unusedVariables false
set_option maxRecDepth 100000

/-! ### function 4 : e2e.enginelaw.ReplayEqualsLive -/
def s4_R (K : Value → World → Prop) (s : Nat → Value) (w : World) : Prop := retv Tryz.prog s Tryz.f4.results.toList (fun vs => K (pack vs) w) w
def s4_p1 (K : Value → World → Prop) (w : World) : Prop :=
  K (.bool true) w
def s4_p1_den (K : Value → World → Prop) : (Nat → Value) → World → Prop := denL Tryz.prog [(cd (Tryz.f4.body.getD .skip) [1, 1, 1, 1, 0]), (cd (Tryz.f4.body.getD .skip) [1, 1, 1, 1, 1])] (fun _ _ => False) (fun i => (fun _ _ => False)) (s4_R K)
theorem s4_p1_ok (K : Value → World → Prop) (s : Nat → Value) (w : World) (h : s4_p1 K w) : Tr (s4_p1_den K s w) :=
  tr_simple (P := Tryz.prog) (codes := [(cd (Tryz.f4.body.getD .skip) [1, 1, 1, 1, 0]), (cd (Tryz.f4.body.getD .skip) [1, 1, 1, 1, 1])]) (N := (fun _ _ => False)) (N' := (fun _ _ => False)) (X := (fun i => (fun _ _ => False))) (X' := (fun i => (fun _ _ => False))) (R := s4_R K) (s := s) (w := w) (p := s4_p1 K w) (q := s4_p1_den K s w) tr_id (fun i => tr_id) (by kernel_rfl) (by kernel_rfl) @h
def s4_p2 (K : Value → World → Prop) (B1 : List Value → World → Prop) (t3 t14 t15 t16 : Value) (w : World) : Prop :=
  boI .add t16 (.int .i64 1) (fun t81 w =>
  B1 [t3, t14, t15, t81] w) w
def s4_p2_den (K : Value → World → Prop) (M1 : (Nat → Value) → World → Prop) : (Nat → Value) → World → Prop := denL Tryz.prog [(cd (Tryz.f4.body.getD .skip) [1, 1, 1, 0, 1, 0, 0, 1, 1, 1])] M1 (fun i => (bif Nat.beq i 0 then (s4_p1_den K) else (fun _ _ => False))) (s4_R K)
theorem s4_p2_ok (K : Value → World → Prop) (B1 : List Value → World → Prop) (s : Nat → Value) (w : World) (h : s4_p2 K B1 (s 3) (s 14) (s 15) (s 16) w) : Tr (s4_p2_den K (fun s w => B1 [s 3, s 14, s 15, s 16] w) s w) :=
  tr_simple (P := Tryz.prog) (codes := [(cd (Tryz.f4.body.getD .skip) [1, 1, 1, 0, 1, 0, 0, 1, 1, 1])]) (N := (fun s w => B1 [s 3, s 14, s 15, s 16] w)) (N' := (fun s w => B1 [s 3, s 14, s 15, s 16] w)) (X := (fun i => (bif Nat.beq i 0 then (fun s w => s4_p1 K w) else (fun _ _ => False)))) (X' := (fun i => (bif Nat.beq i 0 then (s4_p1_den K) else (fun _ _ => False)))) (R := s4_R K) (s := s) (w := w) (p := s4_p2 K B1 (s 3) (s 14) (s 15) (s 16) w) (q := s4_p2_den K (fun s w => B1 [s 3, s 14, s 15, s 16] w) s w) tr_id (fun i => (tr_bif (fun s w h => s4_p1_ok K s w @h) tr_id)) (by kernel_rfl) (by kernel_rfl) @h
def s4_p3 (K : Value → World → Prop) (B1 : List Value → World → Prop) (t3 t6 t8 t14 t15 t16 : Value) (w : World) : Prop :=
  nck t3 (fun t66 w =>
  fd 0 t66 (fun t67 w =>
  ld1 t67 (fun t68 w =>
  cl Tryz.prog 26 #[t68] (fun t69 w =>
  lnS t69 (fun t70 w =>
  boI .neq t70 t8 (fun t72 w =>
  ifb t72
  (K (.bool false) w)
  (cl Tryz.prog 28 #[(.func (.func 29) #[t6] #[])] (fun t75 w =>
  cl Tryz.prog 28 #[(.func (.func 11) #[t3] #[])] (fun t78 w =>
  cl Tryz.prog 27 #[t75, t78] (fun t79 w =>
  un .not t79 (fun t80 w =>
  ifb t80
  (K (.bool false) w)
  (s4_p2 K B1 t3 t14 t15 t16 w)) w) w) w) w)) w) w) w) w) w) w
def s4_p3_den (K : Value → World → Prop) (M1 : (Nat → Value) → World → Prop) : (Nat → Value) → World → Prop := denL Tryz.prog [(cd (Tryz.f4.body.getD .skip) [1, 1, 1, 0, 1, 0, 0, 1, 1, 0, 0, 1, 1, 1, 1, 1, 1, 1, 0, 0]), (cd (Tryz.f4.body.getD .skip) [1, 1, 1, 0, 1, 0, 0, 1, 1, 0, 0, 1, 1, 1, 1, 1, 1, 1, 0, 1]), (cd (Tryz.f4.body.getD .skip) [1, 1, 1, 0, 1, 0, 0, 1, 1, 0, 0, 1, 1, 1, 1, 1, 1, 1, 1, 0]), (cd (Tryz.f4.body.getD .skip) [1, 1, 1, 0, 1, 0, 0, 1, 1, 0, 0, 1, 1, 1, 1, 1, 1, 1, 1, 1])] (s4_p2_den K M1) (fun i => (bif Nat.beq i 1 then (s4_p2_den K M1) else (bif Nat.beq i 0 then (s4_p1_den K) else (fun _ _ => False)))) (s4_R K)
theorem s4_p3_ok (K : Value → World → Prop) (B1 : List Value → World → Prop) (s : Nat → Value) (w : World) (h : s4_p3 K B1 (s 3) (s 6) (s 8) (s 14) (s 15) (s 16) w) : Tr (s4_p3_den K (fun s w => B1 [s 3, s 14, s 15, s 16] w) s w) :=
  tr_simple (P := Tryz.prog) (codes := [(cd (Tryz.f4.body.getD .skip) [1, 1, 1, 0, 1, 0, 0, 1, 1, 0, 0, 1, 1, 1, 1, 1, 1, 1, 0, 0]), (cd (Tryz.f4.body.getD .skip) [1, 1, 1, 0, 1, 0, 0, 1, 1, 0, 0, 1, 1, 1, 1, 1, 1, 1, 0, 1]), (cd (Tryz.f4.body.getD .skip) [1, 1, 1, 0, 1, 0, 0, 1, 1, 0, 0, 1, 1, 1, 1, 1, 1, 1, 1, 0]), (cd (Tryz.f4.body.getD .skip) [1, 1, 1, 0, 1, 0, 0, 1, 1, 0, 0, 1, 1, 1, 1, 1, 1, 1, 1, 1])]) (N := (fun s w => s4_p2 K B1 (s 3) (s 14) (s 15) (s 16) w)) (N' := (s4_p2_den K (fun s w => B1 [s 3, s 14, s 15, s 16] w))) (X := (fun i => (bif Nat.beq i 1 then (fun s w => s4_p2 K B1 (s 3) (s 14) (s 15) (s 16) w) else (bif Nat.beq i 0 then (fun s w => s4_p1 K w) else (fun _ _ => False))))) (X' := (fun i => (bif Nat.beq i 1 then (s4_p2_den K (fun s w => B1 [s 3, s 14, s 15, s 16] w)) else (bif Nat.beq i 0 then (s4_p1_den K) else (fun _ _ => False))))) (R := s4_R K) (s := s) (w := w) (p := s4_p3 K B1 (s 3) (s 6) (s 8) (s 14) (s 15) (s 16) w) (q := s4_p3_den K (fun s w => B1 [s 3, s 14, s 15, s 16] w) s w) (fun s w h => s4_p2_ok K B1 s w @h) (fun i => (tr_bif (fun s w h => s4_p2_ok K B1 s w @h) (tr_bif (fun s w h => s4_p1_ok K s w @h) tr_id))) (by kernel_rfl) (by kernel_rfl) @h
def s4_p4 (K : Value → World → Prop) (B1 : List Value → World → Prop) (t3 t6 t14 t15 t16 t56 : Value) (w : World) : Prop :=
  ifb t56
  (K (.bool false) w)
  (cl Tryz.prog 25 #[t6] (fun t58 w =>
  fi Tryz.prog 81 t58 4 (fun t59 w =>
  cl Tryz.prog 25 #[t6] (fun t61 w =>
  fi Tryz.prog 81 t61 5 (fun t62 w =>
  ifb t62
  (boI .add t59 (.int .i64 1) (fun t64 w =>
  s4_p3 K B1 t3 t6 t64 t14 t15 t16 w) w)
  (s4_p3 K B1 t3 t6 t59 t14 t15 t16 w)) w) w) w) w)
def s4_p4_den (K : Value → World → Prop) (M1 : (Nat → Value) → World → Prop) : (Nat → Value) → World → Prop := denL Tryz.prog [(cd (Tryz.f4.body.getD .skip) [1, 1, 1, 0, 1, 0, 0, 1, 1, 0, 0, 1, 1, 1, 1, 0, 1]), (cd (Tryz.f4.body.getD .skip) [1, 1, 1, 0, 1, 0, 0, 1, 1, 0, 0, 1, 1, 1, 1, 1, 0]), (cd (Tryz.f4.body.getD .skip) [1, 1, 1, 0, 1, 0, 0, 1, 1, 0, 0, 1, 1, 1, 1, 1, 1, 0, 0]), (cd (Tryz.f4.body.getD .skip) [1, 1, 1, 0, 1, 0, 0, 1, 1, 0, 0, 1, 1, 1, 1, 1, 1, 0, 1])] (s4_p3_den K M1) (fun i => (bif Nat.beq i 1 then (s4_p2_den K M1) else (bif Nat.beq i 0 then (s4_p1_den K) else (fun _ _ => False)))) (s4_R K)
theorem s4_p4_ok (K : Value → World → Prop) (B1 : List Value → World → Prop) (s : Nat → Value) (w : World) (h : s4_p4 K B1 (s 3) (s 6) (s 14) (s 15) (s 16) (s 56) w) : Tr (s4_p4_den K (fun s w => B1 [s 3, s 14, s 15, s 16] w) s w) :=
  tr_simple (P := Tryz.prog) (codes := [(cd (Tryz.f4.body.getD .skip) [1, 1, 1, 0, 1, 0, 0, 1, 1, 0, 0, 1, 1, 1, 1, 0, 1]), (cd (Tryz.f4.body.getD .skip) [1, 1, 1, 0, 1, 0, 0, 1, 1, 0, 0, 1, 1, 1, 1, 1, 0]), (cd (Tryz.f4.body.getD .skip) [1, 1, 1, 0, 1, 0, 0, 1, 1, 0, 0, 1, 1, 1, 1, 1, 1, 0, 0]), (cd (Tryz.f4.body.getD .skip) [1, 1, 1, 0, 1, 0, 0, 1, 1, 0, 0, 1, 1, 1, 1, 1, 1, 0, 1])]) (N := (fun s w => s4_p3 K B1 (s 3) (s 6) (s 8) (s 14) (s 15) (s 16) w)) (N' := (s4_p3_den K (fun s w => B1 [s 3, s 14, s 15, s 16] w))) (X := (fun i => (bif Nat.beq i 1 then (fun s w => s4_p2 K B1 (s 3) (s 14) (s 15) (s 16) w) else (bif Nat.beq i 0 then (fun s w => s4_p1 K w) else (fun _ _ => False))))) (X' := (fun i => (bif Nat.beq i 1 then (s4_p2_den K (fun s w => B1 [s 3, s 14, s 15, s 16] w)) else (bif Nat.beq i 0 then (s4_p1_den K) else (fun _ _ => False))))) (R := s4_R K) (s := s) (w := w) (p := s4_p4 K B1 (s 3) (s 6) (s 14) (s 15) (s 16) (s 56) w) (q := s4_p4_den K (fun s w => B1 [s 3, s 14, s 15, s 16] w) s w) (fun s w h => s4_p3_ok K B1 s w @h) (fun i => (tr_bif (fun s w h => s4_p2_ok K B1 s w @h) (tr_bif (fun s w h => s4_p1_ok K s w @h) tr_id))) (by kernel_rfl) (by kernel_rfl) @h
def s4_p5_d (K : Value → World → Prop) (B1 : List Value → World → Prop) (t3 t6 t7 t14 t15 t16 : Value) (w0 w : World) : Prop :=
  boF Tryz.prog true .neq t7 .nilIface (fun t38 _ =>
  gd t38 false (fun K w => K t6 w) (fun t40 _ =>
  gd t38 false (fun K w => K t3 w) (fun t42 _ =>
  gd t38 false (nck t42) (fun t43 _ =>
  gd t38 false (fd 1 t43) (fun t44 _ =>
  gd t38 false (ld1 t44) (fun t45 _ =>
  gd t38 false (cl Tryz.prog 24 #[t40]) (fun t41 w =>
  Below w0.heap.size w0 w ∧
  gd t38 false (cl Tryz.prog 24 #[t45]) (fun t46 w =>
  gd t38 false (boI .neq t41 t46) (fun t47 w =>
  pk t38 (.bool true) t47 (fun t48 w =>
  gd t48 false (fun K w => K t6 w) (fun t50 w =>
  gd t48 false (cl Tryz.prog 25 #[t50]) (fun t51 w =>
  (gd t48 false (fi Tryz.prog 81 t51 4) (fun t52 w =>
  gd t48 false (cl Tryz.prog 22 #[]) (fun t53 w =>
  gd t48 false (fi Tryz.prog 75 t53 13) (fun t54 w =>
  gd t48 false (boI .geq t52 t54) (fun t55 w =>
  pk t48 (.bool true) t55 (fun t56 w =>
  s4_p4 K B1 t3 t6 t14 t15 t16 t56 w) w) w) w) w) w) ∧
  (gd t48 false (cl Tryz.prog 22 #[]) (fun t53_2 w =>
  (gd t48 false (fi Tryz.prog 81 t51 4) (fun t52_2 w =>
  gd t48 false (fi Tryz.prog 75 t53_2 13) (fun t54_2 w =>
  gd t48 false (boI .geq t52_2 t54_2) (fun t55_2 w =>
  pk t48 (.bool true) t55_2 (fun t56_2 w =>
  s4_p4 K B1 t3 t6 t14 t15 t16 t56_2 w) w) w) w) w) ∧
  (gd t48 false (fi Tryz.prog 75 t53_2 13) (fun t54_3 w =>
  gd t48 false (fi Tryz.prog 81 t51 4) (fun t52_3 w =>
  gd t48 false (boI .geq t52_3 t54_3) (fun t55_3 w =>
  pk t48 (.bool true) t55_3 (fun t56_3 w =>
  s4_p4 K B1 t3 t6 t14 t15 t16 t56_3 w) w) w) w) w)) w)) w) w) w) w) w) w) w0) w0) w0) w0) w0) w0
def s4_p5 (K : Value → World → Prop) (B1 : List Value → World → Prop) (t3 t6 t7 t14 t15 t16 : Value) (w : World) : Prop := s4_p5_d K B1 t3 t6 t7 t14 t15 t16 (drw w) (drw w)
def s4_p5_den (K : Value → World → Prop) (M1 : (Nat → Value) → World → Prop) : (Nat → Value) → World → Prop := denL Tryz.prog [(cd (Tryz.f4.body.getD .skip) [1, 1, 1, 0, 1, 0, 0, 1, 1, 0, 0, 1, 1, 1, 1, 0, 0])] (s4_p4_den K M1) (fun i => (bif Nat.beq i 1 then (s4_p2_den K M1) else (bif Nat.beq i 0 then (s4_p1_den K) else (fun _ _ => False)))) (s4_R K)
theorem s4_p5_ok (K : Value → World → Prop) (B1 : List Value → World → Prop) (s : Nat → Value) (w : World) (h : s4_p5 K B1 (s 3) (s 6) (s 7) (s 14) (s 15) (s 16) w) : Tr (s4_p5_den K (fun s w => B1 [s 3, s 14, s 15, s 16] w) s w) :=
  tr_draw (P := Tryz.prog) (ops := (ro (cd (Tryz.f4.body.getD .skip) [1, 1, 1, 0, 1, 0, 0, 1, 1, 0, 0, 1, 1, 1, 1, 0, 0]))) (ms := [0, 1, 3, 7, 15, 7, 39, 103, 231, 511, 1023, 2047, 4095, 8191, 16383, 32767, 32767, 98303, 262143, 524287]) (cs := [0, 1, 2, 3, 5, 6, 7, 8]) (N := (fun s w => s4_p4 K B1 (s 3) (s 6) (s 14) (s 15) (s 16) (s 56) w)) (N' := (s4_p4_den K (fun s w => B1 [s 3, s 14, s 15, s 16] w))) (s := s) (w := w) (p := s4_p5 K B1 (s 3) (s 6) (s 7) (s 14) (s 15) (s 16) w) (q := s4_p5_den K (fun s w => B1 [s 3, s 14, s 15, s 16] w) s w) (by kernel_rfl) (by kernel_rfl) (fun s w h => s4_p4_ok K B1 s w @h) (by kernel_rfl) (by kernel_rfl) @h
def s4_p6_d (K : Value → World → Prop) (B1 : List Value → World → Prop) (t3 t14 t15 t16 : Value) (w0 w : World) : Prop :=
  nck t3 (fun t30 _ =>
  fd 0 t30 (fun t31 _ =>
  ld1 t31 (fun t32 _ =>
  cl Tryz.prog 22 #[] (fun t28 w =>
  Below w0.heap.size w0 w ∧
  cl Tryz.prog 23 #[t32] (fun t33 w =>
  cl Tryz.prog 21 #[t28, t33] (fun t34 w =>
  (exq t34 0 (fun t35 w =>
  (exq t34 1 (fun t36 w =>
  s4_p5 K B1 t3 t35 t36 t14 t15 t16 w) w) ∧
  (exq t34 1 (fun t36_2 w =>
  s4_p5 K B1 t3 t35 t36_2 t14 t15 t16 w) w)) w) ∧
  (exq t34 1 (fun t36_3 w =>
  exq t34 0 (fun t35_2 w =>
  s4_p5 K B1 t3 t35_2 t36_3 t14 t15 t16 w) w) w)) w) w) w) w0) w0) w0
def s4_p6 (K : Value → World → Prop) (B1 : List Value → World → Prop) (t3 t14 t15 t16 : Value) (w : World) : Prop := s4_p6_d K B1 t3 t14 t15 t16 (drw w) (drw w)
def s4_p6_den (K : Value → World → Prop) (M1 : (Nat → Value) → World → Prop) : (Nat → Value) → World → Prop := denL Tryz.prog [(cd (Tryz.f4.body.getD .skip) [1, 1, 1, 0, 1, 0, 0, 1, 1, 0, 0, 1, 1, 1, 0])] (s4_p5_den K M1) (fun i => (bif Nat.beq i 1 then (s4_p2_den K M1) else (bif Nat.beq i 0 then (s4_p1_den K) else (fun _ _ => False)))) (s4_R K)
theorem s4_p6_ok (K : Value → World → Prop) (B1 : List Value → World → Prop) (s : Nat → Value) (w : World) (h : s4_p6 K B1 (s 3) (s 14) (s 15) (s 16) w) : Tr (s4_p6_den K (fun s w => B1 [s 3, s 14, s 15, s 16] w) s w) :=
  tr_draw (P := Tryz.prog) (ops := (ro (cd (Tryz.f4.body.getD .skip) [1, 1, 1, 0, 1, 0, 0, 1, 1, 0, 0, 1, 1, 1, 0]))) (ms := [0, 0, 2, 6, 14, 31, 63, 127, 255, 255, 511, 2047]) (cs := [1, 2, 3, 4]) (N := (fun s w => s4_p5 K B1 (s 3) (s 6) (s 7) (s 14) (s 15) (s 16) w)) (N' := (s4_p5_den K (fun s w => B1 [s 3, s 14, s 15, s 16] w))) (s := s) (w := w) (p := s4_p6 K B1 (s 3) (s 14) (s 15) (s 16) w) (q := s4_p6_den K (fun s w => B1 [s 3, s 14, s 15, s 16] w) s w) (by kernel_rfl) (by kernel_rfl) (fun s w h => s4_p5_ok K B1 s w @h) (by kernel_rfl) (by kernel_rfl) @h
def s4_p7 (K : Value → World → Prop) (B1 : List Value → World → Prop) (t3 t14 t15 t16 : Value) (w : World) : Prop :=
  ixs 4 t14 t16 (fun t18 w =>
  ldn 4 t18 (fun t19 w =>
  nw 37 #[(.int .i64 0), (.slice none 0 0), (.int .i64 0), (.int .i64 0)] (fun t5 w =>
  stn 4 t5 t19 (fun w =>
  ldn 4 t5 (fun t20 w =>
  cl Tryz.prog 20 #[t20] (fun t21 w =>
  un .not t21 (fun t22 w =>
  ifb t22
  (s4_p2 K B1 t3 t14 t15 t16 w)
  (fd 1 t5 (fun t24 w =>
  ld1 t24 (fun t25 w =>
  cl Tryz.prog 11 #[t3, t25] (fun t26 w =>
  s4_p6 K B1 t3 t14 t15 t16 w) w) w) w)) w) w) w) w) w) w) w
def s4_p7_den (K : Value → World → Prop) (M1 : (Nat → Value) → World → Prop) : (Nat → Value) → World → Prop := denL Tryz.prog [(cd (Tryz.f4.body.getD .skip) [1, 1, 1, 0, 1, 0, 0, 1, 1, 0, 0, 0]), (cd (Tryz.f4.body.getD .skip) [1, 1, 1, 0, 1, 0, 0, 1, 1, 0, 0, 1, 0, 0]), (cd (Tryz.f4.body.getD .skip) [1, 1, 1, 0, 1, 0, 0, 1, 1, 0, 0, 1, 0, 1]), (cd (Tryz.f4.body.getD .skip) [1, 1, 1, 0, 1, 0, 0, 1, 1, 0, 0, 1, 1, 0])] (s4_p6_den K M1) (fun i => (bif Nat.beq i 1 then (s4_p2_den K M1) else (bif Nat.beq i 0 then (s4_p1_den K) else (fun _ _ => False)))) (s4_R K)
theorem s4_p7_ok (K : Value → World → Prop) (B1 : List Value → World → Prop) (s : Nat → Value) (w : World) (h : s4_p7 K B1 (s 3) (s 14) (s 15) (s 16) w) : Tr (s4_p7_den K (fun s w => B1 [s 3, s 14, s 15, s 16] w) s w) :=
  tr_simple (P := Tryz.prog) (codes := [(cd (Tryz.f4.body.getD .skip) [1, 1, 1, 0, 1, 0, 0, 1, 1, 0, 0, 0]), (cd (Tryz.f4.body.getD .skip) [1, 1, 1, 0, 1, 0, 0, 1, 1, 0, 0, 1, 0, 0]), (cd (Tryz.f4.body.getD .skip) [1, 1, 1, 0, 1, 0, 0, 1, 1, 0, 0, 1, 0, 1]), (cd (Tryz.f4.body.getD .skip) [1, 1, 1, 0, 1, 0, 0, 1, 1, 0, 0, 1, 1, 0])]) (N := (fun s w => s4_p6 K B1 (s 3) (s 14) (s 15) (s 16) w)) (N' := (s4_p6_den K (fun s w => B1 [s 3, s 14, s 15, s 16] w))) (X := (fun i => (bif Nat.beq i 1 then (fun s w => s4_p2 K B1 (s 3) (s 14) (s 15) (s 16) w) else (bif Nat.beq i 0 then (fun s w => s4_p1 K w) else (fun _ _ => False))))) (X' := (fun i => (bif Nat.beq i 1 then (s4_p2_den K (fun s w => B1 [s 3, s 14, s 15, s 16] w)) else (bif Nat.beq i 0 then (s4_p1_den K) else (fun _ _ => False))))) (R := s4_R K) (s := s) (w := w) (p := s4_p7 K B1 (s 3) (s 14) (s 15) (s 16) w) (q := s4_p7_den K (fun s w => B1 [s 3, s 14, s 15, s 16] w) s w) (fun s w h => s4_p6_ok K B1 s w @h) (fun i => (tr_bif (fun s w h => s4_p2_ok K B1 s w @h) (tr_bif (fun s w h => s4_p1_ok K s w @h) tr_id))) (by kernel_rfl) (by kernel_rfl) @h
def s4_p8 (K : Value → World → Prop) (B1 : List Value → World → Prop) (t3 t14 t15 t16 : Value) (w : World) : Prop :=
  boI .lss t16 t15 (fun t17 w =>
  ifb t17
  (s4_p7 K B1 t3 t14 t15 t16 w)
  (s4_p1 K w)) w
def s4_p8_den (K : Value → World → Prop) (M1 : (Nat → Value) → World → Prop) : (Nat → Value) → World → Prop := denL Tryz.prog [(cd (Tryz.f4.body.getD .skip) [1, 1, 1, 0, 1, 0, 0, 0]), (cd (Tryz.f4.body.getD .skip) [1, 1, 1, 0, 1, 0, 0, 1, 0])] (s4_p7_den K M1) (fun i => (bif Nat.beq i 0 then (s4_p1_den K) else (fun _ _ => False))) (s4_R K)
theorem s4_p8_ok (K : Value → World → Prop) (B1 : List Value → World → Prop) (s : Nat → Value) (w : World) (h : s4_p8 K B1 (s 3) (s 14) (s 15) (s 16) w) : Tr (s4_p8_den K (fun s w => B1 [s 3, s 14, s 15, s 16] w) s w) :=
  tr_simple (P := Tryz.prog) (codes := [(cd (Tryz.f4.body.getD .skip) [1, 1, 1, 0, 1, 0, 0, 0]), (cd (Tryz.f4.body.getD .skip) [1, 1, 1, 0, 1, 0, 0, 1, 0])]) (N := (fun s w => s4_p7 K B1 (s 3) (s 14) (s 15) (s 16) w)) (N' := (s4_p7_den K (fun s w => B1 [s 3, s 14, s 15, s 16] w))) (X := (fun i => (bif Nat.beq i 0 then (fun s w => s4_p1 K w) else (fun _ _ => False)))) (X' := (fun i => (bif Nat.beq i 0 then (s4_p1_den K) else (fun _ _ => False)))) (R := s4_R K) (s := s) (w := w) (p := s4_p8 K B1 (s 3) (s 14) (s 15) (s 16) w) (q := s4_p8_den K (fun s w => B1 [s 3, s 14, s 15, s 16] w) s w) (fun s w h => s4_p7_ok K B1 s w @h) (fun i => (tr_bif (fun s w h => s4_p1_ok K s w @h) tr_id)) (by kernel_rfl) (by kernel_rfl) @h
def s4_p9_F (K : Value → World → Prop) (B1 : List Value → World → Prop) (l : List Value) (w : World) : Prop :=
  match l with
  | [t3, t14, t15, t16] => s4_p8 K B1 t3 t14 t15 t16 w
  | _ => False
theorem s4_p9_Fe {K : Value → World → Prop} {B1 : List Value → World → Prop} {t3 t14 t15 t16 : Value} {w : World} : s4_p9_F K B1 [t3, t14, t15, t16] w = s4_p8 K B1 t3 t14 t15 t16 w := by kernel_rfl
def s4_p9 (K : Value → World → Prop) (t3 t14 t15 t16 : Value) (w : World) : Prop :=
  LoopL (s4_p9_F K) [t3, t14, t15, t16] w
def s4_p9_den (K : Value → World → Prop) : (Nat → Value) → World → Prop := fun s w => LoopP (fun M1 s w => s4_p8_den K M1 s w) s w
theorem s4_p9_ok (K : Value → World → Prop) (s : Nat → Value) (w : World) (h : s4_p9 K (s 3) (s 14) (s 15) (s 16) w) : Tr (s4_p9_den K s w) :=
  tr_loop (G := fun N' s w => s4_p8_den K N' s w) (F := s4_p9_F K) (sel := fun s => [s 3, s 14, s 15, s 16]) (s := s) (w := w) (p := s4_p9 K (s 3) (s 14) (s 15) (s 16) w) (q := s4_p9_den K s w) (fun B s w h => s4_p8_ok K B s w @h) (by kernel_rfl) (by kernel_rfl) @h
def s4_p10 (K : Value → World → Prop) (t0 : Value) (w : World) : Prop :=
  cl Tryz.prog 7 #[t0] (fun t10 w =>
  un .not t10 (fun t11 w =>
  ifb t11
  (K (.bool true) w)
  (cl Tryz.prog 9 #[] (fun t12 w =>
  cl Tryz.prog 8 #[t12] (fun t13 w =>
  lnS t0 (fun t15 w =>
  s4_p9 K t13 t0 t15 (.int .i64 0) w) w) w) w)) w) w
def s4_p10_den (K : Value → World → Prop) : (Nat → Value) → World → Prop := denL Tryz.prog [(cd (Tryz.f4.body.getD .skip) [0]), (cd (Tryz.f4.body.getD .skip) [1, 0, 0]), (cd (Tryz.f4.body.getD .skip) [1, 0, 1]), (cd (Tryz.f4.body.getD .skip) [1, 1, 0]), (cd (Tryz.f4.body.getD .skip) [1, 1, 1, 0, 0])] (s4_p9_den K) (fun i => (fun _ _ => False)) (s4_R K)
theorem s4_p10_ok (K : Value → World → Prop) (s : Nat → Value) (w : World) (h : s4_p10 K (s 0) w) : Tr (s4_p10_den K s w) :=
  tr_simple (P := Tryz.prog) (codes := [(cd (Tryz.f4.body.getD .skip) [0]), (cd (Tryz.f4.body.getD .skip) [1, 0, 0]), (cd (Tryz.f4.body.getD .skip) [1, 0, 1]), (cd (Tryz.f4.body.getD .skip) [1, 1, 0]), (cd (Tryz.f4.body.getD .skip) [1, 1, 1, 0, 0])]) (N := (fun s w => s4_p9 K (s 3) (s 14) (s 15) (s 16) w)) (N' := (s4_p9_den K)) (X := (fun i => (fun _ _ => False))) (X' := (fun i => (fun _ _ => False))) (R := s4_R K) (s := s) (w := w) (p := s4_p10 K (s 0) w) (q := s4_p10_den K s w) (fun s w h => s4_p9_ok K s w @h) (fun i => tr_id) (by kernel_rfl) (by kernel_rfl) @h
/-- the call, from the text -/
theorem c4 (t0 : Value) {K : Value → World → Prop} {w : World} (h : s4_p10 K t0 w) : cl Tryz.prog 4 #[t0] K w :=
  calls_of_tr (c := (Tryz.f4.body.getD .skip)) (fn := Tryz.f4) (q := s4_p10_den K (st0 #[t0]) w) Tryz.func4 (by kernel_rfl) (by kernel_rfl) (Nat.le_of_ble_eq_true (by kernel_rfl)) (by kernel_rfl) (by kernel_rfl) (s4_p10_ok K (st0 #[t0]) w @h)

end Go.Proofs.Qxb6500896aGreatDoor
