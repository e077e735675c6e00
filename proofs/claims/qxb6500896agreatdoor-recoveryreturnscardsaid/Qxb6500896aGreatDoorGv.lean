import Derived.Test.Qxb6500896aGreatDoorProg
import Derived.Test.Qxb6500896aGreatDoorShTr
namespace Go.Proofs.Qxb6500896aGreatDoor
open Go.Sh Go.RowKit
set_option linter.unusedVariables false
set_option maxRecDepth 100000

/-! ### function 6 : e2e.enginelaw.RecoveryReturns -/
def s6_R (K : Value → World → Prop) (s : Nat → Value) (w : World) : Prop := retv Tryz.prog s Tryz.f6.results.toList (fun vs => K (pack vs) w) w
def s6_p1 (K : Value → World → Prop) (t0 t3 : Value) (w : World) : Prop :=
  nck t3 (fun t50 w =>
  fd 5 t50 (fun t51 w =>
  ld1 t51 (fun t52 w =>
  lnS t52 (fun t53 w =>
  nck t3 (fun t54 w =>
  fd 6 t54 (fun t55 w =>
  st1 t55 t53 (fun w =>
  cl Tryz.prog 26 #[t3] (fun t57 w =>
  lnS t57 (fun t58 w =>
  lnS t0 (fun t60 w =>
  boI .neq t58 t60 (fun t61 w =>
  ifb t61
  (K (.bool false) w)
  (cl Tryz.prog 22 #[] (fun t63 w =>
  cl Tryz.prog 21 #[t63, t3] (fun t65 w =>
  exq t65 0 (fun t66 w =>
  exq t65 1 (fun t67 w =>
  boF Tryz.prog true .neq t67 .nilIface (fun t69 w =>
  ifb t69
  (boP .eql t66 (.pointer none) (fun t71 w =>
  gd t71 true (fun K w => K t67 w) (fun t73 w =>
  gd t71 true (cl Tryz.prog 35 #[t73]) (fun t74 w =>
  gd t71 true (boI .eql t74 (.int .i64 20)) (fun t75 w =>
  pk t71 t75 (.bool false) (fun t76 w =>
  K t76 w) w) w) w) w) w)
  (cl Tryz.prog 36 #[t66] (fun t78 w =>
  K t78 w) w)) w) w) w) w) w)) w) w) w) w) w) w) w) w) w) w) w
def s6_p1_den (K : Value → World → Prop) : (Nat → Value) → World → Prop := denL Tryz.prog [(cd (Tryz.f6.body.getD .skip) [1, 1, 1, 1, 0]), (cd (Tryz.f6.body.getD .skip) [1, 1, 1, 1, 1, 0, 0]), (cd (Tryz.f6.body.getD .skip) [1, 1, 1, 1, 1, 0, 1]), (cd (Tryz.f6.body.getD .skip) [1, 1, 1, 1, 1, 1, 0]), (cd (Tryz.f6.body.getD .skip) [1, 1, 1, 1, 1, 1, 1, 0, 0]), (cd (Tryz.f6.body.getD .skip) [1, 1, 1, 1, 1, 1, 1, 0, 1]), (cd (Tryz.f6.body.getD .skip) [1, 1, 1, 1, 1, 1, 1, 1, 0]), (cd (Tryz.f6.body.getD .skip) [1, 1, 1, 1, 1, 1, 1, 1, 1])] (fun _ _ => False) (fun i => (fun _ _ => False)) (s6_R K)
theorem s6_p1_ok (K : Value → World → Prop) (s : Nat → Value) (w : World) (h : s6_p1 K (s 0) (s 3) w) : Tr (s6_p1_den K s w) :=
  tr_simple (P := Tryz.prog) (codes := [(cd (Tryz.f6.body.getD .skip) [1, 1, 1, 1, 0]), (cd (Tryz.f6.body.getD .skip) [1, 1, 1, 1, 1, 0, 0]), (cd (Tryz.f6.body.getD .skip) [1, 1, 1, 1, 1, 0, 1]), (cd (Tryz.f6.body.getD .skip) [1, 1, 1, 1, 1, 1, 0]), (cd (Tryz.f6.body.getD .skip) [1, 1, 1, 1, 1, 1, 1, 0, 0]), (cd (Tryz.f6.body.getD .skip) [1, 1, 1, 1, 1, 1, 1, 0, 1]), (cd (Tryz.f6.body.getD .skip) [1, 1, 1, 1, 1, 1, 1, 1, 0]), (cd (Tryz.f6.body.getD .skip) [1, 1, 1, 1, 1, 1, 1, 1, 1])]) (N := (fun _ _ => False)) (N' := (fun _ _ => False)) (X := (fun i => (fun _ _ => False))) (X' := (fun i => (fun _ _ => False))) (R := s6_R K) (s := s) (w := w) (p := s6_p1 K (s 0) (s 3) w) (q := s6_p1_den K s w) tr_id (fun i => tr_id) (by kernel_rfl) (by kernel_rfl) @h
def s6_p2 (K : Value → World → Prop) (B1 : List Value → World → Prop) (t0 t3 t13 t14 t15 : Value) (w : World) : Prop :=
  boI .add t15 (.int .i64 1) (fun t47 w =>
  B1 [t0, t3, t13, t14, t47] w) w
def s6_p2_den (K : Value → World → Prop) (M1 : (Nat → Value) → World → Prop) : (Nat → Value) → World → Prop := denL Tryz.prog [(cd (Tryz.f6.body.getD .skip) [1, 1, 1, 0, 1, 0, 0, 1, 1, 1])] M1 (fun i => (bif Nat.beq i 0 then (s6_p1_den K) else (fun _ _ => False))) (s6_R K)
theorem s6_p2_ok (K : Value → World → Prop) (B1 : List Value → World → Prop) (s : Nat → Value) (w : World) (h : s6_p2 K B1 (s 0) (s 3) (s 13) (s 14) (s 15) w) : Tr (s6_p2_den K (fun s w => B1 [s 0, s 3, s 13, s 14, s 15] w) s w) :=
  tr_simple (P := Tryz.prog) (codes := [(cd (Tryz.f6.body.getD .skip) [1, 1, 1, 0, 1, 0, 0, 1, 1, 1])]) (N := (fun s w => B1 [s 0, s 3, s 13, s 14, s 15] w)) (N' := (fun s w => B1 [s 0, s 3, s 13, s 14, s 15] w)) (X := (fun i => (bif Nat.beq i 0 then (fun s w => s6_p1 K (s 0) (s 3) w) else (fun _ _ => False)))) (X' := (fun i => (bif Nat.beq i 0 then (s6_p1_den K) else (fun _ _ => False)))) (R := s6_R K) (s := s) (w := w) (p := s6_p2 K B1 (s 0) (s 3) (s 13) (s 14) (s 15) w) (q := s6_p2_den K (fun s w => B1 [s 0, s 3, s 13, s 14, s 15] w) s w) tr_id (fun i => (tr_bif (fun s w h => s6_p1_ok K s w @h) tr_id)) (by kernel_rfl) (by kernel_rfl) @h
def s6_p3_d (K : Value → World → Prop) (B1 : List Value → World → Prop) (t0 t3 t5 t13 t14 t15 : Value) (w0 w : World) : Prop :=
  nck t3 (fun t38 _ =>
  fd 5 t38 (fun t39 _ =>
  ld1 t39 (fun t40 _ =>
  fd 1 t5 (fun t41 _ =>
  ld1 t41 (fun t42 _ =>
  nck t3 (fun t45 _ =>
  fd 5 t45 (fun t46 _ =>
  bsq 35 [(.slice none 0 0)] 1 [(some (0, 1), t42)] (fun t43 w =>
  Below w0.heap.size w0 w ∧
  apq 35 [(.slice none 0 0)] 24 t40 t43 (fun t44 w =>
  st1 t46 t44 (fun w =>
  s6_p2 K B1 t0 t3 t13 t14 t15 w) w) w) w) w0) w0) w0) w0) w0) w0) w0
def s6_p3 (K : Value → World → Prop) (B1 : List Value → World → Prop) (t0 t3 t5 t13 t14 t15 : Value) (w : World) : Prop := s6_p3_d K B1 t0 t3 t5 t13 t14 t15 (drw w) (drw w)
def s6_p3_den (K : Value → World → Prop) (M1 : (Nat → Value) → World → Prop) : (Nat → Value) → World → Prop := denL Tryz.prog [(cd (Tryz.f6.body.getD .skip) [1, 1, 1, 0, 1, 0, 0, 1, 1, 0, 0, 1, 1])] (s6_p2_den K M1) (fun i => (bif Nat.beq i 1 then (s6_p2_den K M1) else (bif Nat.beq i 0 then (s6_p1_den K) else (fun _ _ => False)))) (s6_R K)
theorem s6_p3_ok (K : Value → World → Prop) (B1 : List Value → World → Prop) (s : Nat → Value) (w : World) (h : s6_p3 K B1 (s 0) (s 3) (s 5) (s 13) (s 14) (s 15) w) : Tr (s6_p3_den K (fun s w => B1 [s 0, s 3, s 13, s 14, s 15] w) s w) :=
  tr_draw (P := Tryz.prog) (ops := (ro (cd (Tryz.f6.body.getD .skip) [1, 1, 1, 0, 1, 0, 0, 1, 1, 0, 0, 1, 1]))) (ms := [0, 0, 2, 6, 14, 0, 32, 96, 254, 511, 1023, 2047]) (cs := [0, 1, 2, 3, 4, 5, 6, 9, 10]) (N := (fun s w => s6_p2 K B1 (s 0) (s 3) (s 13) (s 14) (s 15) w)) (N' := (s6_p2_den K (fun s w => B1 [s 0, s 3, s 13, s 14, s 15] w))) (s := s) (w := w) (p := s6_p3 K B1 (s 0) (s 3) (s 5) (s 13) (s 14) (s 15) w) (q := s6_p3_den K (fun s w => B1 [s 0, s 3, s 13, s 14, s 15] w) s w) (by kernel_rfl) (by kernel_rfl) (fun s w h => s6_p2_ok K B1 s w @h) (by kernel_rfl) (by kernel_rfl) @h
def s6_p4 (K : Value → World → Prop) (B1 : List Value → World → Prop) (t0 t3 t13 t14 t15 : Value) (w : World) : Prop :=
  s6_p2 K B1 t0 t3 t13 t14 t15 w
def s6_p4_den (K : Value → World → Prop) (M1 : (Nat → Value) → World → Prop) : (Nat → Value) → World → Prop := denL Tryz.prog [(cd (Tryz.f6.body.getD .skip) [1, 1, 1, 0, 1, 0, 0, 1, 1, 0, 0, 1, 0, 1, 0, 1])] (fun _ _ => False) (fun i => (bif Nat.beq i 1 then (s6_p2_den K M1) else (bif Nat.beq i 0 then (s6_p1_den K) else (fun _ _ => False)))) (s6_R K)
theorem s6_p4_ok (K : Value → World → Prop) (B1 : List Value → World → Prop) (s : Nat → Value) (w : World) (h : s6_p4 K B1 (s 0) (s 3) (s 13) (s 14) (s 15) w) : Tr (s6_p4_den K (fun s w => B1 [s 0, s 3, s 13, s 14, s 15] w) s w) :=
  tr_simple (P := Tryz.prog) (codes := [(cd (Tryz.f6.body.getD .skip) [1, 1, 1, 0, 1, 0, 0, 1, 1, 0, 0, 1, 0, 1, 0, 1])]) (N := (fun _ _ => False)) (N' := (fun _ _ => False)) (X := (fun i => (bif Nat.beq i 1 then (fun s w => s6_p2 K B1 (s 0) (s 3) (s 13) (s 14) (s 15) w) else (bif Nat.beq i 0 then (fun s w => s6_p1 K (s 0) (s 3) w) else (fun _ _ => False))))) (X' := (fun i => (bif Nat.beq i 1 then (s6_p2_den K (fun s w => B1 [s 0, s 3, s 13, s 14, s 15] w)) else (bif Nat.beq i 0 then (s6_p1_den K) else (fun _ _ => False))))) (R := s6_R K) (s := s) (w := w) (p := s6_p4 K B1 (s 0) (s 3) (s 13) (s 14) (s 15) w) (q := s6_p4_den K (fun s w => B1 [s 0, s 3, s 13, s 14, s 15] w) s w) tr_id (fun i => (tr_bif (fun s w h => s6_p2_ok K B1 s w @h) (tr_bif (fun s w h => s6_p1_ok K s w @h) tr_id))) (by kernel_rfl) (by kernel_rfl) @h
def s6_p5_d (K : Value → World → Prop) (B1 : List Value → World → Prop) (t0 t3 t5 t13 t14 t15 : Value) (w0 w : World) : Prop :=
  fd 1 t5 (fun t30 _ =>
  nck t3 (fun t32 _ =>
  fd 3 t32 (fun t33 _ =>
  nck t3 (fun t34 _ =>
  fd 4 t34 (fun t35 _ =>
  (ld1 t30 (fun t31 w =>
  st1 t33 (.bool true) (fun w =>
  st1 t35 t31 (fun w =>
  s6_p4 K B1 t0 t3 t13 t14 t15 w) w) w) w) ∧
  (st1 t33 (.bool true) (fun w =>
  ld1 t30 (fun t31_2 w =>
  st1 t35 t31_2 (fun w =>
  s6_p4 K B1 t0 t3 t13 t14 t15 w) w) w) w)) w0) w0) w0) w0) w0
def s6_p5 (K : Value → World → Prop) (B1 : List Value → World → Prop) (t0 t3 t5 t13 t14 t15 : Value) (w : World) : Prop := s6_p5_d K B1 t0 t3 t5 t13 t14 t15 (drw w) (drw w)
def s6_p5_den (K : Value → World → Prop) (M1 : (Nat → Value) → World → Prop) : (Nat → Value) → World → Prop := denL Tryz.prog [(cd (Tryz.f6.body.getD .skip) [1, 1, 1, 0, 1, 0, 0, 1, 1, 0, 0, 1, 0, 1, 0, 0])] (s6_p4_den K M1) (fun i => (bif Nat.beq i 1 then (s6_p2_den K M1) else (bif Nat.beq i 0 then (s6_p1_den K) else (fun _ _ => False)))) (s6_R K)
theorem s6_p5_ok (K : Value → World → Prop) (B1 : List Value → World → Prop) (s : Nat → Value) (w : World) (h : s6_p5 K B1 (s 0) (s 3) (s 5) (s 13) (s 14) (s 15) w) : Tr (s6_p5_den K (fun s w => B1 [s 0, s 3, s 13, s 14, s 15] w) s w) :=
  tr_draw (P := Tryz.prog) (ops := (ro (cd (Tryz.f6.body.getD .skip) [1, 1, 1, 0, 1, 0, 0, 1, 1, 0, 0, 1, 0, 1, 0, 0]))) (ms := [0, 0, 0, 4, 1, 17, 49, 127, 255, 511]) (cs := [0, 1, 2, 4, 5, 7, 8]) (N := (fun s w => s6_p4 K B1 (s 0) (s 3) (s 13) (s 14) (s 15) w)) (N' := (s6_p4_den K (fun s w => B1 [s 0, s 3, s 13, s 14, s 15] w))) (s := s) (w := w) (p := s6_p5 K B1 (s 0) (s 3) (s 5) (s 13) (s 14) (s 15) w) (q := s6_p5_den K (fun s w => B1 [s 0, s 3, s 13, s 14, s 15] w) s w) (by kernel_rfl) (by kernel_rfl) (fun s w h => s6_p4_ok K B1 s w @h) (by kernel_rfl) (by kernel_rfl) @h
def s6_p6 (K : Value → World → Prop) (B1 : List Value → World → Prop) (t0 t3 t5 t13 t14 t15 t27 : Value) (w : World) : Prop :=
  ifb t27
  (s6_p5 K B1 t0 t3 t5 t13 t14 t15 w)
  (s6_p3 K B1 t0 t3 t5 t13 t14 t15 w)
def s6_p6_den (K : Value → World → Prop) (M1 : (Nat → Value) → World → Prop) : (Nat → Value) → World → Prop := fun s w => ifb (ev s (.tmp 27)) ((s6_p5_den K M1) s w) ((s6_p3_den K M1) s w)
theorem s6_p6_ok (K : Value → World → Prop) (B1 : List Value → World → Prop) (s : Nat → Value) (w : World) (h : s6_p6 K B1 (s 0) (s 3) (s 5) (s 13) (s 14) (s 15) (s 27) w) : Tr (s6_p6_den K (fun s w => B1 [s 0, s 3, s 13, s 14, s 15] w) s w) :=
  tr_cond (v := ev s (.tmp 27)) (a := (fun s w => s6_p5 K B1 (s 0) (s 3) (s 5) (s 13) (s 14) (s 15) w) s w) (a' := (s6_p5_den K (fun s w => B1 [s 0, s 3, s 13, s 14, s 15] w)) s w) (b := (fun s w => s6_p3 K B1 (s 0) (s 3) (s 5) (s 13) (s 14) (s 15) w) s w) (b' := (s6_p3_den K (fun s w => B1 [s 0, s 3, s 13, s 14, s 15] w)) s w) (p := s6_p6 K B1 (s 0) (s 3) (s 5) (s 13) (s 14) (s 15) (s 27) w) (q := s6_p6_den K (fun s w => B1 [s 0, s 3, s 13, s 14, s 15] w) s w) ((fun s w h => s6_p5_ok K B1 s w @h) s w) ((fun s w h => s6_p3_ok K B1 s w @h) s w) (by kernel_rfl) (by kernel_rfl) @h
def s6_p7 (K : Value → World → Prop) (B1 : List Value → World → Prop) (t0 t3 t13 t14 t15 : Value) (w : World) : Prop :=
  ixs 4 t13 t15 (fun t18 w =>
  ldn 4 t18 (fun t19 w =>
  nw 37 #[(.int .i64 0), (.slice none 0 0), (.int .i64 0), (.int .i64 0)] (fun t5 w =>
  stn 4 t5 t19 (fun w =>
  boI .eql t15 (.int .i64 0) (fun t21 w =>
  gd t21 true (fd 3 t5) (fun t23 w =>
  gd t21 true (ld1 t23) (fun t24 w =>
  gd t21 true (boI .rem t24 (.int .i64 2)) (fun t25 w =>
  gd t21 true (boI .eql t25 (.int .i64 1)) (fun t26 w =>
  pk t21 t26 (.bool false) (fun t27 w =>
  s6_p6 K B1 t0 t3 t5 t13 t14 t15 t27 w) w) w) w) w) w) w) w) w) w) w
def s6_p7_den (K : Value → World → Prop) (M1 : (Nat → Value) → World → Prop) : (Nat → Value) → World → Prop := denL Tryz.prog [(cd (Tryz.f6.body.getD .skip) [1, 1, 1, 0, 1, 0, 0, 1, 1, 0, 0, 0]), (cd (Tryz.f6.body.getD .skip) [1, 1, 1, 0, 1, 0, 0, 1, 1, 0, 0, 1, 0, 0])] (s6_p6_den K M1) (fun i => (bif Nat.beq i 1 then (s6_p2_den K M1) else (bif Nat.beq i 0 then (s6_p1_den K) else (fun _ _ => False)))) (s6_R K)
theorem s6_p7_ok (K : Value → World → Prop) (B1 : List Value → World → Prop) (s : Nat → Value) (w : World) (h : s6_p7 K B1 (s 0) (s 3) (s 13) (s 14) (s 15) w) : Tr (s6_p7_den K (fun s w => B1 [s 0, s 3, s 13, s 14, s 15] w) s w) :=
  tr_simple (P := Tryz.prog) (codes := [(cd (Tryz.f6.body.getD .skip) [1, 1, 1, 0, 1, 0, 0, 1, 1, 0, 0, 0]), (cd (Tryz.f6.body.getD .skip) [1, 1, 1, 0, 1, 0, 0, 1, 1, 0, 0, 1, 0, 0])]) (N := (fun s w => s6_p6 K B1 (s 0) (s 3) (s 5) (s 13) (s 14) (s 15) (s 27) w)) (N' := (s6_p6_den K (fun s w => B1 [s 0, s 3, s 13, s 14, s 15] w))) (X := (fun i => (bif Nat.beq i 1 then (fun s w => s6_p2 K B1 (s 0) (s 3) (s 13) (s 14) (s 15) w) else (bif Nat.beq i 0 then (fun s w => s6_p1 K (s 0) (s 3) w) else (fun _ _ => False))))) (X' := (fun i => (bif Nat.beq i 1 then (s6_p2_den K (fun s w => B1 [s 0, s 3, s 13, s 14, s 15] w)) else (bif Nat.beq i 0 then (s6_p1_den K) else (fun _ _ => False))))) (R := s6_R K) (s := s) (w := w) (p := s6_p7 K B1 (s 0) (s 3) (s 13) (s 14) (s 15) w) (q := s6_p7_den K (fun s w => B1 [s 0, s 3, s 13, s 14, s 15] w) s w) (fun s w h => s6_p6_ok K B1 s w @h) (fun i => (tr_bif (fun s w h => s6_p2_ok K B1 s w @h) (tr_bif (fun s w h => s6_p1_ok K s w @h) tr_id))) (by kernel_rfl) (by kernel_rfl) @h
def s6_p8 (K : Value → World → Prop) (B1 : List Value → World → Prop) (t0 t3 t13 t14 t15 : Value) (w : World) : Prop :=
  boI .lss t15 t14 (fun t16 w =>
  ifb t16
  (s6_p7 K B1 t0 t3 t13 t14 t15 w)
  (s6_p1 K t0 t3 w)) w
def s6_p8_den (K : Value → World → Prop) (M1 : (Nat → Value) → World → Prop) : (Nat → Value) → World → Prop := denL Tryz.prog [(cd (Tryz.f6.body.getD .skip) [1, 1, 1, 0, 1, 0, 0, 0]), (cd (Tryz.f6.body.getD .skip) [1, 1, 1, 0, 1, 0, 0, 1, 0])] (s6_p7_den K M1) (fun i => (bif Nat.beq i 0 then (s6_p1_den K) else (fun _ _ => False))) (s6_R K)
theorem s6_p8_ok (K : Value → World → Prop) (B1 : List Value → World → Prop) (s : Nat → Value) (w : World) (h : s6_p8 K B1 (s 0) (s 3) (s 13) (s 14) (s 15) w) : Tr (s6_p8_den K (fun s w => B1 [s 0, s 3, s 13, s 14, s 15] w) s w) :=
  tr_simple (P := Tryz.prog) (codes := [(cd (Tryz.f6.body.getD .skip) [1, 1, 1, 0, 1, 0, 0, 0]), (cd (Tryz.f6.body.getD .skip) [1, 1, 1, 0, 1, 0, 0, 1, 0])]) (N := (fun s w => s6_p7 K B1 (s 0) (s 3) (s 13) (s 14) (s 15) w)) (N' := (s6_p7_den K (fun s w => B1 [s 0, s 3, s 13, s 14, s 15] w))) (X := (fun i => (bif Nat.beq i 0 then (fun s w => s6_p1 K (s 0) (s 3) w) else (fun _ _ => False)))) (X' := (fun i => (bif Nat.beq i 0 then (s6_p1_den K) else (fun _ _ => False)))) (R := s6_R K) (s := s) (w := w) (p := s6_p8 K B1 (s 0) (s 3) (s 13) (s 14) (s 15) w) (q := s6_p8_den K (fun s w => B1 [s 0, s 3, s 13, s 14, s 15] w) s w) (fun s w h => s6_p7_ok K B1 s w @h) (fun i => (tr_bif (fun s w h => s6_p1_ok K s w @h) tr_id)) (by kernel_rfl) (by kernel_rfl) @h
def s6_p9_F (K : Value → World → Prop) (B1 : List Value → World → Prop) (l : List Value) (w : World) : Prop :=
  match l with
  | [t0, t3, t13, t14, t15] => s6_p8 K B1 t0 t3 t13 t14 t15 w
  | _ => False
theorem s6_p9_Fe {K : Value → World → Prop} {B1 : List Value → World → Prop} {t0 t3 t13 t14 t15 : Value} {w : World} : s6_p9_F K B1 [t0, t3, t13, t14, t15] w = s6_p8 K B1 t0 t3 t13 t14 t15 w := by kernel_rfl
def s6_p9 (K : Value → World → Prop) (t0 t3 t13 t14 t15 : Value) (w : World) : Prop :=
  LoopL (s6_p9_F K) [t0, t3, t13, t14, t15] w
def s6_p9_den (K : Value → World → Prop) : (Nat → Value) → World → Prop := fun s w => LoopP (fun M1 s w => s6_p8_den K M1 s w) s w
theorem s6_p9_ok (K : Value → World → Prop) (s : Nat → Value) (w : World) (h : s6_p9 K (s 0) (s 3) (s 13) (s 14) (s 15) w) : Tr (s6_p9_den K s w) :=
  tr_loop (G := fun N' s w => s6_p8_den K N' s w) (F := s6_p9_F K) (sel := fun s => [s 0, s 3, s 13, s 14, s 15]) (s := s) (w := w) (p := s6_p9 K (s 0) (s 3) (s 13) (s 14) (s 15) w) (q := s6_p9_den K s w) (fun B s w h => s6_p8_ok K B s w @h) (by kernel_rfl) (by kernel_rfl) @h
def s6_p10 (K : Value → World → Prop) (t0 : Value) (w : World) : Prop :=
  cl Tryz.prog 7 #[t0] (fun t9 w =>
  un .not t9 (fun t10 w =>
  ifb t10
  (K (.bool true) w)
  (cl Tryz.prog 9 #[] (fun t11 w =>
  cl Tryz.prog 34 #[t11] (fun t12 w =>
  lnS t0 (fun t14 w =>
  s6_p9 K t0 t12 t0 t14 (.int .i64 0) w) w) w) w)) w) w
def s6_p10_den (K : Value → World → Prop) : (Nat → Value) → World → Prop := denL Tryz.prog [(cd (Tryz.f6.body.getD .skip) [0]), (cd (Tryz.f6.body.getD .skip) [1, 0, 0]), (cd (Tryz.f6.body.getD .skip) [1, 0, 1]), (cd (Tryz.f6.body.getD .skip) [1, 1, 0]), (cd (Tryz.f6.body.getD .skip) [1, 1, 1, 0, 0])] (s6_p9_den K) (fun i => (fun _ _ => False)) (s6_R K)
theorem s6_p10_ok (K : Value → World → Prop) (s : Nat → Value) (w : World) (h : s6_p10 K (s 0) w) : Tr (s6_p10_den K s w) :=
  tr_simple (P := Tryz.prog) (codes := [(cd (Tryz.f6.body.getD .skip) [0]), (cd (Tryz.f6.body.getD .skip) [1, 0, 0]), (cd (Tryz.f6.body.getD .skip) [1, 0, 1]), (cd (Tryz.f6.body.getD .skip) [1, 1, 0]), (cd (Tryz.f6.body.getD .skip) [1, 1, 1, 0, 0])]) (N := (fun s w => s6_p9 K (s 0) (s 3) (s 13) (s 14) (s 15) w)) (N' := (s6_p9_den K)) (X := (fun i => (fun _ _ => False))) (X' := (fun i => (fun _ _ => False))) (R := s6_R K) (s := s) (w := w) (p := s6_p10 K (s 0) w) (q := s6_p10_den K s w) (fun s w h => s6_p9_ok K s w @h) (fun i => tr_id) (by kernel_rfl) (by kernel_rfl) @h
/-- the call, from the text -/
theorem c6 (t0 : Value) {K : Value → World → Prop} {w : World} (h : s6_p10 K t0 w) : cl Tryz.prog 6 #[t0] K w :=
  calls_of_tr (c := (Tryz.f6.body.getD .skip)) (fn := Tryz.f6) (q := s6_p10_den K (st0 #[t0]) w) Tryz.func6 (by kernel_rfl) (by kernel_rfl) (Nat.le_of_ble_eq_true (by kernel_rfl)) (by kernel_rfl) (by kernel_rfl) (s6_p10_ok K (st0 #[t0]) w @h)

end Go.Proofs.Qxb6500896aGreatDoor
