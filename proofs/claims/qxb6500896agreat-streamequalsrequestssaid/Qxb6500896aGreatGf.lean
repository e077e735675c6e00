import Derived.Test.Qxb6500896aGreatProg
import Derived.Test.Qxb6500896aGreatShTr
namespace Go.Proofs.Qxb6500896aGreat
open Go.Sh Go.RowKit
set_option linter.unusedVariables false
set_option maxRecDepth 100000

/-! ### function 185 : (*e2e.engine.Engine).answer -/
def s185_R (K : Value → World → Prop) (s : Nat → Value) (w : World) : Prop := retv Tryz.prog s Tryz.f185.results.toList (fun vs => K (pack vs) w) w
def s185_p1 (K : Value → World → Prop) (t0 t4 t5 : Value) (w : World) : Prop :=
  fd 0 t5 (fun t81 w =>
  ld1 t81 (fun t82 w =>
  boI .neq t82 (.int .i64 0) (fun t83 w =>
  ifb t83
  (fd 0 t5 (fun t85 w =>
  ld1 t85 (fun t86 w =>
  cl Tryz.prog 178 #[t0, t86] (fun t87 w =>
  stn 34 t4 t87 (fun w =>
  ldn 34 t4 (fun r0 _ =>
  K r0 w) w) w) w) w) w)
  (nck t0 (fun t89 w =>
  fd 22 t89 (fun t90 w =>
  fd 1 t90 (fun t91 w =>
  ld1 t91 (fun t92 w =>
  boI .add t92 (.int .i64 1) (fun t93 w =>
  nck t0 (fun t94 w =>
  fd 22 t94 (fun t95 w =>
  fd 1 t95 (fun t96 w =>
  st1 t96 t93 (fun w =>
  ldn 34 t5 (fun t97 w =>
  stn 34 t4 t97 (fun w =>
  ldn 34 t4 (fun r0 _ =>
  K r0 w) w) w) w) w) w) w) w) w) w) w) w) w)) w) w) w
def s185_p1_den (K : Value → World → Prop) : (Nat → Value) → World → Prop := denL Tryz.prog [(cd (Tryz.f185.body.getD .skip) [1, 1, 1, 0, 0]), (cd (Tryz.f185.body.getD .skip) [1, 1, 1, 0, 1]), (cd (Tryz.f185.body.getD .skip) [1, 1, 1, 1, 0]), (cd (Tryz.f185.body.getD .skip) [1, 1, 1, 1, 1, 0]), (cd (Tryz.f185.body.getD .skip) [1, 1, 1, 1, 1, 1])] (fun _ _ => False) (fun i => (fun _ _ => False)) (s185_R K)
theorem s185_p1_ok (K : Value → World → Prop) (s : Nat → Value) (w : World) (h : s185_p1 K (s 0) (s 4) (s 5) w) : Tr (s185_p1_den K s w) :=
  tr_simple (P := Tryz.prog) (codes := [(cd (Tryz.f185.body.getD .skip) [1, 1, 1, 0, 0]), (cd (Tryz.f185.body.getD .skip) [1, 1, 1, 0, 1]), (cd (Tryz.f185.body.getD .skip) [1, 1, 1, 1, 0]), (cd (Tryz.f185.body.getD .skip) [1, 1, 1, 1, 1, 0]), (cd (Tryz.f185.body.getD .skip) [1, 1, 1, 1, 1, 1])]) (N := (fun _ _ => False)) (N' := (fun _ _ => False)) (X := (fun i => (fun _ _ => False))) (X' := (fun i => (fun _ _ => False))) (R := s185_R K) (s := s) (w := w) (p := s185_p1 K (s 0) (s 4) (s 5) w) (q := s185_p1_den K s w) tr_id (fun i => tr_id) (by kernel_rfl) (by kernel_rfl) @h
def s185_p2 (K : Value → World → Prop) (t0 t3 t4 t5 : Value) (w : World) : Prop :=
  ldn 8 t3 (fun t12 w =>
  cl Tryz.prog 217 #[t0, t12] (fun t13 w =>
  stn 34 t5 t13 (fun w =>
  s185_p1 K t0 t4 t5 w) w) w) w
def s185_p2_den (K : Value → World → Prop) : (Nat → Value) → World → Prop := denL Tryz.prog [(cd (Tryz.f185.body.getD .skip) [1, 1, 0, 1, 0, 1, 0])] (s185_p1_den K) (fun i => (bif Nat.beq i 0 then (s185_p1_den K) else (fun _ _ => False))) (s185_R K)
theorem s185_p2_ok (K : Value → World → Prop) (s : Nat → Value) (w : World) (h : s185_p2 K (s 0) (s 3) (s 4) (s 5) w) : Tr (s185_p2_den K s w) :=
  tr_simple (P := Tryz.prog) (codes := [(cd (Tryz.f185.body.getD .skip) [1, 1, 0, 1, 0, 1, 0])]) (N := (fun s w => s185_p1 K (s 0) (s 4) (s 5) w)) (N' := (s185_p1_den K)) (X := (fun i => (bif Nat.beq i 0 then (fun s w => s185_p1 K (s 0) (s 4) (s 5) w) else (fun _ _ => False)))) (X' := (fun i => (bif Nat.beq i 0 then (s185_p1_den K) else (fun _ _ => False)))) (R := s185_R K) (s := s) (w := w) (p := s185_p2 K (s 0) (s 3) (s 4) (s 5) w) (q := s185_p2_den K s w) (fun s w h => s185_p1_ok K s w @h) (fun i => (tr_bif (fun s w h => s185_p1_ok K s w @h) tr_id)) (by kernel_rfl) (by kernel_rfl) @h
def s185_p3 (K : Value → World → Prop) (t0 t3 t4 t5 : Value) (w : World) : Prop :=
  ldn 8 t3 (fun t17 w =>
  cl Tryz.prog 218 #[t0, t17] (fun t18 w =>
  stn 34 t5 t18 (fun w =>
  s185_p1 K t0 t4 t5 w) w) w) w
def s185_p3_den (K : Value → World → Prop) : (Nat → Value) → World → Prop := denL Tryz.prog [(cd (Tryz.f185.body.getD .skip) [1, 1, 0, 1, 0, 1, 1, 1, 0])] (s185_p1_den K) (fun i => (bif Nat.beq i 0 then (s185_p1_den K) else (fun _ _ => False))) (s185_R K)
theorem s185_p3_ok (K : Value → World → Prop) (s : Nat → Value) (w : World) (h : s185_p3 K (s 0) (s 3) (s 4) (s 5) w) : Tr (s185_p3_den K s w) :=
  tr_simple (P := Tryz.prog) (codes := [(cd (Tryz.f185.body.getD .skip) [1, 1, 0, 1, 0, 1, 1, 1, 0])]) (N := (fun s w => s185_p1 K (s 0) (s 4) (s 5) w)) (N' := (s185_p1_den K)) (X := (fun i => (bif Nat.beq i 0 then (fun s w => s185_p1 K (s 0) (s 4) (s 5) w) else (fun _ _ => False)))) (X' := (fun i => (bif Nat.beq i 0 then (s185_p1_den K) else (fun _ _ => False)))) (R := s185_R K) (s := s) (w := w) (p := s185_p3 K (s 0) (s 3) (s 4) (s 5) w) (q := s185_p3_den K s w) (fun s w h => s185_p1_ok K s w @h) (fun i => (tr_bif (fun s w h => s185_p1_ok K s w @h) tr_id)) (by kernel_rfl) (by kernel_rfl) @h
def s185_p4 (K : Value → World → Prop) (t0 t3 t4 t5 : Value) (w : World) : Prop :=
  ldn 8 t3 (fun t22 w =>
  cl Tryz.prog 219 #[t0, t22] (fun t23 w =>
  stn 34 t5 t23 (fun w =>
  s185_p1 K t0 t4 t5 w) w) w) w
def s185_p4_den (K : Value → World → Prop) : (Nat → Value) → World → Prop := denL Tryz.prog [(cd (Tryz.f185.body.getD .skip) [1, 1, 0, 1, 0, 1, 1, 1, 1, 1, 0])] (s185_p1_den K) (fun i => (bif Nat.beq i 0 then (s185_p1_den K) else (fun _ _ => False))) (s185_R K)
theorem s185_p4_ok (K : Value → World → Prop) (s : Nat → Value) (w : World) (h : s185_p4 K (s 0) (s 3) (s 4) (s 5) w) : Tr (s185_p4_den K s w) :=
  tr_simple (P := Tryz.prog) (codes := [(cd (Tryz.f185.body.getD .skip) [1, 1, 0, 1, 0, 1, 1, 1, 1, 1, 0])]) (N := (fun s w => s185_p1 K (s 0) (s 4) (s 5) w)) (N' := (s185_p1_den K)) (X := (fun i => (bif Nat.beq i 0 then (fun s w => s185_p1 K (s 0) (s 4) (s 5) w) else (fun _ _ => False)))) (X' := (fun i => (bif Nat.beq i 0 then (s185_p1_den K) else (fun _ _ => False)))) (R := s185_R K) (s := s) (w := w) (p := s185_p4 K (s 0) (s 3) (s 4) (s 5) w) (q := s185_p4_den K s w) (fun s w h => s185_p1_ok K s w @h) (fun i => (tr_bif (fun s w h => s185_p1_ok K s w @h) tr_id)) (by kernel_rfl) (by kernel_rfl) @h
def s185_p5_d (K : Value → World → Prop) (t0 t3 t4 t5 : Value) (w0 w : World) : Prop :=
  fd 0 t3 (fun t26 _ =>
  ld1 t26 (fun t27 _ =>
  nck t0 (fun t29 _ =>
  fd 16 t29 (fun t30 _ =>
  ld1 t30 (fun t31 _ =>
  fd 2 t3 (fun t32 _ =>
  ld1 t32 (fun t33 _ =>
  cl Tryz.prog 164 #[t31, t33] (fun t34 w =>
  Below w0.heap.size w0 w ∧
  bdq [(.int .i64 0), (.int .u8 0), (.int .i64 0), (.int .i64 0), (.int .i64 0), (.int .i64 0), (.int .i64 0), (.slice none 0 0), (.int .i64 0), (.int .i64 0), (.int .i64 0), (.slice none 0 0), (.int .i64 0), (.int .i64 0), (.int .i64 0), (.int .i64 0), (.int .i64 0), (.int .i64 0), (.slice none 0 0), (.int .i64 0), (.int .i64 0), (.int .i64 0), (.int .i64 0), (.int .i64 0), (.int .i64 0), (.int .i64 0), (.int .i64 0), (.int .i64 0), (.int .i64 0), (.int .i64 0), (.int .i64 0), (.int .i64 0), (.int .i64 0), (.int .i64 0)] [(some (1, 1), t27), (some (18, 1), t34)] (fun t35 w =>
  stn 34 t5 t35 (fun w =>
  s185_p1 K t0 t4 t5 w) w) w) w) w0) w0) w0) w0) w0) w0) w0
def s185_p5 (K : Value → World → Prop) (t0 t3 t4 t5 : Value) (w : World) : Prop := s185_p5_d K t0 t3 t4 t5 (drw w) (drw w)
def s185_p5_den (K : Value → World → Prop) : (Nat → Value) → World → Prop := denL Tryz.prog [(cd (Tryz.f185.body.getD .skip) [1, 1, 0, 1, 0, 1, 1, 1, 1, 1, 1, 1, 0])] (s185_p1_den K) (fun i => (bif Nat.beq i 0 then (s185_p1_den K) else (fun _ _ => False))) (s185_R K)
theorem s185_p5_ok (K : Value → World → Prop) (s : Nat → Value) (w : World) (h : s185_p5 K (s 0) (s 3) (s 4) (s 5) w) : Tr (s185_p5_den K s w) :=
  tr_draw (P := Tryz.prog) (ops := (ro (cd (Tryz.f185.body.getD .skip) [1, 1, 0, 1, 0, 1, 1, 1, 1, 1, 1, 1, 0]))) (ms := [0, 1, 0, 4, 12, 28, 0, 64, 252, 511, 1023]) (cs := [0, 1, 2, 3, 4, 5, 6, 7]) (N := (fun s w => s185_p1 K (s 0) (s 4) (s 5) w)) (N' := (s185_p1_den K)) (s := s) (w := w) (p := s185_p5 K (s 0) (s 3) (s 4) (s 5) w) (q := s185_p5_den K s w) (by kernel_rfl) (by kernel_rfl) (fun s w h => s185_p1_ok K s w @h) (by kernel_rfl) (by kernel_rfl) @h
def s185_p6_d (K : Value → World → Prop) (t0 t3 t4 t5 : Value) (w0 w : World) : Prop :=
  fd 0 t3 (fun t38 _ =>
  ld1 t38 (fun t39 _ =>
  nck t0 (fun t41 _ =>
  fd 14 t41 (fun t42 _ =>
  ld1 t42 (fun t43 _ =>
  nck t0 (fun t45 _ =>
  fd 14 t45 (fun t46 _ =>
  ld1 t46 (fun t47 _ =>
  nck t0 (fun t49 _ =>
  fd 0 t49 (fun t50 _ =>
  fd 2 t50 (fun t51 _ =>
  ld1 t51 (fun t52 _ =>
  boI .add t47 t52 (fun t53 _ =>
  boI .sub t53 (.int .i64 1) (fun t54 _ =>
  nck t0 (fun t56 _ =>
  fd 15 t56 (fun t57 _ =>
  ld1 t57 (fun t58 _ =>
  cl Tryz.prog 162 #[t58] (fun t59 w =>
  Below w0.heap.size w0 w ∧
  bdq [(.int .i64 0), (.int .u8 0), (.int .i64 0), (.int .i64 0), (.int .i64 0), (.int .i64 0), (.int .i64 0), (.slice none 0 0), (.int .i64 0), (.int .i64 0), (.int .i64 0), (.slice none 0 0), (.int .i64 0), (.int .i64 0), (.int .i64 0), (.int .i64 0), (.int .i64 0), (.int .i64 0), (.slice none 0 0), (.int .i64 0), (.int .i64 0), (.int .i64 0), (.int .i64 0), (.int .i64 0), (.int .i64 0), (.int .i64 0), (.int .i64 0), (.int .i64 0), (.int .i64 0), (.int .i64 0), (.int .i64 0), (.int .i64 0), (.int .i64 0), (.int .i64 0)] [(some (1, 1), t39), (some (6, 1), t43), (some (19, 1), t54), (some (20, 1), t59)] (fun t60 w =>
  stn 34 t5 t60 (fun w =>
  s185_p1 K t0 t4 t5 w) w) w) w) w0) w0) w0) w0) w0) w0) w0) w0) w0) w0) w0) w0) w0) w0) w0) w0) w0
def s185_p6 (K : Value → World → Prop) (t0 t3 t4 t5 : Value) (w : World) : Prop := s185_p6_d K t0 t3 t4 t5 (drw w) (drw w)
def s185_p6_den (K : Value → World → Prop) : (Nat → Value) → World → Prop := denL Tryz.prog [(cd (Tryz.f185.body.getD .skip) [1, 1, 0, 1, 0, 1, 1, 1, 1, 1, 1, 1, 1, 1, 0])] (s185_p1_den K) (fun i => (bif Nat.beq i 0 then (s185_p1_den K) else (fun _ _ => False))) (s185_R K)
theorem s185_p6_ok (K : Value → World → Prop) (s : Nat → Value) (w : World) (h : s185_p6 K (s 0) (s 3) (s 4) (s 5) w) : Tr (s185_p6_den K s w) :=
  tr_draw (P := Tryz.prog) (ops := (ro (cd (Tryz.f185.body.getD .skip) [1, 1, 0, 1, 0, 1, 1, 1, 1, 1, 1, 1, 1, 1, 0]))) (ms := [0, 1, 0, 4, 12, 28, 0, 64, 192, 448, 0, 1024, 3072, 7168, 15360, 32704, 65472, 0, 131072, 393216, 917504, 1966080, 4194303, 8388607]) (cs := [0, 1, 2, 3, 4, 5, 6, 7, 8, 9, 10, 11, 12, 13, 14, 15, 16, 17, 18, 19, 20]) (N := (fun s w => s185_p1 K (s 0) (s 4) (s 5) w)) (N' := (s185_p1_den K)) (s := s) (w := w) (p := s185_p6 K (s 0) (s 3) (s 4) (s 5) w) (q := s185_p6_den K s w) (by kernel_rfl) (by kernel_rfl) (fun s w h => s185_p1_ok K s w @h) (by kernel_rfl) (by kernel_rfl) @h
def s185_p7 (K : Value → World → Prop) (t0 t3 t4 t5 t7 : Value) (w : World) : Prop :=
  boI .eql t7 (.int .u8 21) (fun t62 w =>
  ifb t62
  (ldn 8 t3 (fun t64 w =>
  cl Tryz.prog 220 #[t0, t64] (fun t65 w =>
  stn 34 t5 t65 (fun w =>
  s185_p1 K t0 t4 t5 w) w) w) w)
  (boI .eql t7 (.int .u8 22) (fun t67 w =>
  ifb t67
  (ldn 8 t3 (fun t69 w =>
  cl Tryz.prog 221 #[t0, t69] (fun t70 w =>
  stn 34 t5 t70 (fun w =>
  s185_p1 K t0 t4 t5 w) w) w) w)
  (boI .eql t7 (.int .u8 23) (fun t72 w =>
  ifb t72
  (ldn 8 t3 (fun t74 w =>
  cl Tryz.prog 222 #[t0, t74] (fun t75 w =>
  stn 34 t5 t75 (fun w =>
  s185_p1 K t0 t4 t5 w) w) w) w)
  (boI .eql t7 (.int .u8 24) (fun t77 w =>
  ifb t77
  (ldn 8 t3 (fun t79 w =>
  cl Tryz.prog 223 #[t0, t79] (fun t80 w =>
  stn 34 t5 t80 (fun w =>
  s185_p1 K t0 t4 t5 w) w) w) w)
  (cl Tryz.prog 129 #[(.int .i64 1)] (fun t8 w =>
  stn 34 t5 t8 (fun w =>
  s185_p1 K t0 t4 t5 w) w) w)) w)) w)) w)) w
def s185_p7_den (K : Value → World → Prop) : (Nat → Value) → World → Prop := denL Tryz.prog [(cd (Tryz.f185.body.getD .skip) [1, 1, 0, 1, 0, 1, 1, 1, 1, 1, 1, 1, 1, 1, 1, 0]), (cd (Tryz.f185.body.getD .skip) [1, 1, 0, 1, 0, 1, 1, 1, 1, 1, 1, 1, 1, 1, 1, 1])] (s185_p1_den K) (fun i => (bif Nat.beq i 0 then (s185_p1_den K) else (fun _ _ => False))) (s185_R K)
theorem s185_p7_ok (K : Value → World → Prop) (s : Nat → Value) (w : World) (h : s185_p7 K (s 0) (s 3) (s 4) (s 5) (s 7) w) : Tr (s185_p7_den K s w) :=
  tr_simple (P := Tryz.prog) (codes := [(cd (Tryz.f185.body.getD .skip) [1, 1, 0, 1, 0, 1, 1, 1, 1, 1, 1, 1, 1, 1, 1, 0]), (cd (Tryz.f185.body.getD .skip) [1, 1, 0, 1, 0, 1, 1, 1, 1, 1, 1, 1, 1, 1, 1, 1])]) (N := (fun s w => s185_p1 K (s 0) (s 4) (s 5) w)) (N' := (s185_p1_den K)) (X := (fun i => (bif Nat.beq i 0 then (fun s w => s185_p1 K (s 0) (s 4) (s 5) w) else (fun _ _ => False)))) (X' := (fun i => (bif Nat.beq i 0 then (s185_p1_den K) else (fun _ _ => False)))) (R := s185_R K) (s := s) (w := w) (p := s185_p7 K (s 0) (s 3) (s 4) (s 5) (s 7) w) (q := s185_p7_den K s w) (fun s w h => s185_p1_ok K s w @h) (fun i => (tr_bif (fun s w h => s185_p1_ok K s w @h) tr_id)) (by kernel_rfl) (by kernel_rfl) @h
def s185_p8 (K : Value → World → Prop) (t0 t3 t4 t5 t7 t36 : Value) (w : World) : Prop :=
  ifb t36
  (s185_p6 K t0 t3 t4 t5 w)
  (s185_p7 K t0 t3 t4 t5 t7 w)
def s185_p8_den (K : Value → World → Prop) : (Nat → Value) → World → Prop := fun s w => ifb (ev s (.tmp 36)) ((s185_p6_den K) s w) ((s185_p7_den K) s w)
theorem s185_p8_ok (K : Value → World → Prop) (s : Nat → Value) (w : World) (h : s185_p8 K (s 0) (s 3) (s 4) (s 5) (s 7) (s 36) w) : Tr (s185_p8_den K s w) :=
  tr_cond (v := ev s (.tmp 36)) (a := (fun s w => s185_p6 K (s 0) (s 3) (s 4) (s 5) w) s w) (a' := (s185_p6_den K) s w) (b := (fun s w => s185_p7 K (s 0) (s 3) (s 4) (s 5) (s 7) w) s w) (b' := (s185_p7_den K) s w) (p := s185_p8 K (s 0) (s 3) (s 4) (s 5) (s 7) (s 36) w) (q := s185_p8_den K s w) ((fun s w h => s185_p6_ok K s w @h) s w) ((fun s w h => s185_p7_ok K s w @h) s w) (by kernel_rfl) (by kernel_rfl) @h
def s185_p9 (K : Value → World → Prop) (t0 t3 t4 t5 t7 : Value) (w : World) : Prop :=
  boI .eql t7 (.int .u8 20) (fun t37 w =>
  s185_p8 K t0 t3 t4 t5 t7 t37 w) w
def s185_p9_den (K : Value → World → Prop) : (Nat → Value) → World → Prop := denL Tryz.prog [(cd (Tryz.f185.body.getD .skip) [1, 1, 0, 1, 0, 1, 1, 1, 1, 1, 1, 1, 1, 0])] (s185_p8_den K) (fun i => (bif Nat.beq i 0 then (s185_p1_den K) else (fun _ _ => False))) (s185_R K)
theorem s185_p9_ok (K : Value → World → Prop) (s : Nat → Value) (w : World) (h : s185_p9 K (s 0) (s 3) (s 4) (s 5) (s 7) w) : Tr (s185_p9_den K s w) :=
  tr_simple (P := Tryz.prog) (codes := [(cd (Tryz.f185.body.getD .skip) [1, 1, 0, 1, 0, 1, 1, 1, 1, 1, 1, 1, 1, 0])]) (N := (fun s w => s185_p8 K (s 0) (s 3) (s 4) (s 5) (s 7) (s 36) w)) (N' := (s185_p8_den K)) (X := (fun i => (bif Nat.beq i 0 then (fun s w => s185_p1 K (s 0) (s 4) (s 5) w) else (fun _ _ => False)))) (X' := (fun i => (bif Nat.beq i 0 then (s185_p1_den K) else (fun _ _ => False)))) (R := s185_R K) (s := s) (w := w) (p := s185_p9 K (s 0) (s 3) (s 4) (s 5) (s 7) w) (q := s185_p9_den K s w) (fun s w h => s185_p8_ok K s w @h) (fun i => (tr_bif (fun s w h => s185_p1_ok K s w @h) tr_id)) (by kernel_rfl) (by kernel_rfl) @h
def s185_p10 (K : Value → World → Prop) (t0 t3 t4 t5 t7 t24 : Value) (w : World) : Prop :=
  ifb t24
  (s185_p5 K t0 t3 t4 t5 w)
  (s185_p9 K t0 t3 t4 t5 t7 w)
def s185_p10_den (K : Value → World → Prop) : (Nat → Value) → World → Prop := fun s w => ifb (ev s (.tmp 24)) ((s185_p5_den K) s w) ((s185_p9_den K) s w)
theorem s185_p10_ok (K : Value → World → Prop) (s : Nat → Value) (w : World) (h : s185_p10 K (s 0) (s 3) (s 4) (s 5) (s 7) (s 24) w) : Tr (s185_p10_den K s w) :=
  tr_cond (v := ev s (.tmp 24)) (a := (fun s w => s185_p5 K (s 0) (s 3) (s 4) (s 5) w) s w) (a' := (s185_p5_den K) s w) (b := (fun s w => s185_p9 K (s 0) (s 3) (s 4) (s 5) (s 7) w) s w) (b' := (s185_p9_den K) s w) (p := s185_p10 K (s 0) (s 3) (s 4) (s 5) (s 7) (s 24) w) (q := s185_p10_den K s w) ((fun s w h => s185_p5_ok K s w @h) s w) ((fun s w h => s185_p9_ok K s w @h) s w) (by kernel_rfl) (by kernel_rfl) @h
def s185_p11 (K : Value → World → Prop) (t0 t3 t4 t5 t7 : Value) (w : World) : Prop :=
  boI .eql t7 (.int .u8 19) (fun t25 w =>
  s185_p10 K t0 t3 t4 t5 t7 t25 w) w
def s185_p11_den (K : Value → World → Prop) : (Nat → Value) → World → Prop := denL Tryz.prog [(cd (Tryz.f185.body.getD .skip) [1, 1, 0, 1, 0, 1, 1, 1, 1, 1, 1, 0])] (s185_p10_den K) (fun i => (bif Nat.beq i 0 then (s185_p1_den K) else (fun _ _ => False))) (s185_R K)
theorem s185_p11_ok (K : Value → World → Prop) (s : Nat → Value) (w : World) (h : s185_p11 K (s 0) (s 3) (s 4) (s 5) (s 7) w) : Tr (s185_p11_den K s w) :=
  tr_simple (P := Tryz.prog) (codes := [(cd (Tryz.f185.body.getD .skip) [1, 1, 0, 1, 0, 1, 1, 1, 1, 1, 1, 0])]) (N := (fun s w => s185_p10 K (s 0) (s 3) (s 4) (s 5) (s 7) (s 24) w)) (N' := (s185_p10_den K)) (X := (fun i => (bif Nat.beq i 0 then (fun s w => s185_p1 K (s 0) (s 4) (s 5) w) else (fun _ _ => False)))) (X' := (fun i => (bif Nat.beq i 0 then (s185_p1_den K) else (fun _ _ => False)))) (R := s185_R K) (s := s) (w := w) (p := s185_p11 K (s 0) (s 3) (s 4) (s 5) (s 7) w) (q := s185_p11_den K s w) (fun s w h => s185_p10_ok K s w @h) (fun i => (tr_bif (fun s w h => s185_p1_ok K s w @h) tr_id)) (by kernel_rfl) (by kernel_rfl) @h
def s185_p12 (K : Value → World → Prop) (t0 t3 t4 t5 t7 t19 : Value) (w : World) : Prop :=
  ifb t19
  (s185_p4 K t0 t3 t4 t5 w)
  (s185_p11 K t0 t3 t4 t5 t7 w)
def s185_p12_den (K : Value → World → Prop) : (Nat → Value) → World → Prop := fun s w => ifb (ev s (.tmp 19)) ((s185_p4_den K) s w) ((s185_p11_den K) s w)
theorem s185_p12_ok (K : Value → World → Prop) (s : Nat → Value) (w : World) (h : s185_p12 K (s 0) (s 3) (s 4) (s 5) (s 7) (s 19) w) : Tr (s185_p12_den K s w) :=
  tr_cond (v := ev s (.tmp 19)) (a := (fun s w => s185_p4 K (s 0) (s 3) (s 4) (s 5) w) s w) (a' := (s185_p4_den K) s w) (b := (fun s w => s185_p11 K (s 0) (s 3) (s 4) (s 5) (s 7) w) s w) (b' := (s185_p11_den K) s w) (p := s185_p12 K (s 0) (s 3) (s 4) (s 5) (s 7) (s 19) w) (q := s185_p12_den K s w) ((fun s w h => s185_p4_ok K s w @h) s w) ((fun s w h => s185_p11_ok K s w @h) s w) (by kernel_rfl) (by kernel_rfl) @h
def s185_p13 (K : Value → World → Prop) (t0 t3 t4 t5 t7 : Value) (w : World) : Prop :=
  boI .eql t7 (.int .u8 18) (fun t20 w =>
  s185_p12 K t0 t3 t4 t5 t7 t20 w) w
def s185_p13_den (K : Value → World → Prop) : (Nat → Value) → World → Prop := denL Tryz.prog [(cd (Tryz.f185.body.getD .skip) [1, 1, 0, 1, 0, 1, 1, 1, 1, 0])] (s185_p12_den K) (fun i => (bif Nat.beq i 0 then (s185_p1_den K) else (fun _ _ => False))) (s185_R K)
theorem s185_p13_ok (K : Value → World → Prop) (s : Nat → Value) (w : World) (h : s185_p13 K (s 0) (s 3) (s 4) (s 5) (s 7) w) : Tr (s185_p13_den K s w) :=
  tr_simple (P := Tryz.prog) (codes := [(cd (Tryz.f185.body.getD .skip) [1, 1, 0, 1, 0, 1, 1, 1, 1, 0])]) (N := (fun s w => s185_p12 K (s 0) (s 3) (s 4) (s 5) (s 7) (s 19) w)) (N' := (s185_p12_den K)) (X := (fun i => (bif Nat.beq i 0 then (fun s w => s185_p1 K (s 0) (s 4) (s 5) w) else (fun _ _ => False)))) (X' := (fun i => (bif Nat.beq i 0 then (s185_p1_den K) else (fun _ _ => False)))) (R := s185_R K) (s := s) (w := w) (p := s185_p13 K (s 0) (s 3) (s 4) (s 5) (s 7) w) (q := s185_p13_den K s w) (fun s w h => s185_p12_ok K s w @h) (fun i => (tr_bif (fun s w h => s185_p1_ok K s w @h) tr_id)) (by kernel_rfl) (by kernel_rfl) @h
def s185_p14 (K : Value → World → Prop) (t0 t3 t4 t5 t7 t14 : Value) (w : World) : Prop :=
  ifb t14
  (s185_p3 K t0 t3 t4 t5 w)
  (s185_p13 K t0 t3 t4 t5 t7 w)
def s185_p14_den (K : Value → World → Prop) : (Nat → Value) → World → Prop := fun s w => ifb (ev s (.tmp 14)) ((s185_p3_den K) s w) ((s185_p13_den K) s w)
theorem s185_p14_ok (K : Value → World → Prop) (s : Nat → Value) (w : World) (h : s185_p14 K (s 0) (s 3) (s 4) (s 5) (s 7) (s 14) w) : Tr (s185_p14_den K s w) :=
  tr_cond (v := ev s (.tmp 14)) (a := (fun s w => s185_p3 K (s 0) (s 3) (s 4) (s 5) w) s w) (a' := (s185_p3_den K) s w) (b := (fun s w => s185_p13 K (s 0) (s 3) (s 4) (s 5) (s 7) w) s w) (b' := (s185_p13_den K) s w) (p := s185_p14 K (s 0) (s 3) (s 4) (s 5) (s 7) (s 14) w) (q := s185_p14_den K s w) ((fun s w h => s185_p3_ok K s w @h) s w) ((fun s w h => s185_p13_ok K s w @h) s w) (by kernel_rfl) (by kernel_rfl) @h
def s185_p15 (K : Value → World → Prop) (t0 t3 t4 t5 t7 : Value) (w : World) : Prop :=
  boI .eql t7 (.int .u8 17) (fun t15 w =>
  s185_p14 K t0 t3 t4 t5 t7 t15 w) w
def s185_p15_den (K : Value → World → Prop) : (Nat → Value) → World → Prop := denL Tryz.prog [(cd (Tryz.f185.body.getD .skip) [1, 1, 0, 1, 0, 1, 1, 0])] (s185_p14_den K) (fun i => (bif Nat.beq i 0 then (s185_p1_den K) else (fun _ _ => False))) (s185_R K)
theorem s185_p15_ok (K : Value → World → Prop) (s : Nat → Value) (w : World) (h : s185_p15 K (s 0) (s 3) (s 4) (s 5) (s 7) w) : Tr (s185_p15_den K s w) :=
  tr_simple (P := Tryz.prog) (codes := [(cd (Tryz.f185.body.getD .skip) [1, 1, 0, 1, 0, 1, 1, 0])]) (N := (fun s w => s185_p14 K (s 0) (s 3) (s 4) (s 5) (s 7) (s 14) w)) (N' := (s185_p14_den K)) (X := (fun i => (bif Nat.beq i 0 then (fun s w => s185_p1 K (s 0) (s 4) (s 5) w) else (fun _ _ => False)))) (X' := (fun i => (bif Nat.beq i 0 then (s185_p1_den K) else (fun _ _ => False)))) (R := s185_R K) (s := s) (w := w) (p := s185_p15 K (s 0) (s 3) (s 4) (s 5) (s 7) w) (q := s185_p15_den K s w) (fun s w h => s185_p14_ok K s w @h) (fun i => (tr_bif (fun s w h => s185_p1_ok K s w @h) tr_id)) (by kernel_rfl) (by kernel_rfl) @h
def s185_p16 (K : Value → World → Prop) (t0 t3 t4 t5 t7 t9 : Value) (w : World) : Prop :=
  ifb t9
  (s185_p2 K t0 t3 t4 t5 w)
  (s185_p15 K t0 t3 t4 t5 t7 w)
def s185_p16_den (K : Value → World → Prop) : (Nat → Value) → World → Prop := fun s w => ifb (ev s (.tmp 9)) ((s185_p2_den K) s w) ((s185_p15_den K) s w)
theorem s185_p16_ok (K : Value → World → Prop) (s : Nat → Value) (w : World) (h : s185_p16 K (s 0) (s 3) (s 4) (s 5) (s 7) (s 9) w) : Tr (s185_p16_den K s w) :=
  tr_cond (v := ev s (.tmp 9)) (a := (fun s w => s185_p2 K (s 0) (s 3) (s 4) (s 5) w) s w) (a' := (s185_p2_den K) s w) (b := (fun s w => s185_p15 K (s 0) (s 3) (s 4) (s 5) (s 7) w) s w) (b' := (s185_p15_den K) s w) (p := s185_p16 K (s 0) (s 3) (s 4) (s 5) (s 7) (s 9) w) (q := s185_p16_den K s w) ((fun s w h => s185_p2_ok K s w @h) s w) ((fun s w h => s185_p15_ok K s w @h) s w) (by kernel_rfl) (by kernel_rfl) @h
def s185_p17 (K : Value → World → Prop) (t0 t3 t4 t5 t7 : Value) (w : World) : Prop :=
  boI .eql t7 (.int .u8 16) (fun t10 w =>
  s185_p16 K t0 t3 t4 t5 t7 t10 w) w
def s185_p17_den (K : Value → World → Prop) : (Nat → Value) → World → Prop := denL Tryz.prog [(cd (Tryz.f185.body.getD .skip) [1, 1, 0, 1, 0, 0])] (s185_p16_den K) (fun i => (bif Nat.beq i 0 then (s185_p1_den K) else (fun _ _ => False))) (s185_R K)
theorem s185_p17_ok (K : Value → World → Prop) (s : Nat → Value) (w : World) (h : s185_p17 K (s 0) (s 3) (s 4) (s 5) (s 7) w) : Tr (s185_p17_den K s w) :=
  tr_simple (P := Tryz.prog) (codes := [(cd (Tryz.f185.body.getD .skip) [1, 1, 0, 1, 0, 0])]) (N := (fun s w => s185_p16 K (s 0) (s 3) (s 4) (s 5) (s 7) (s 9) w)) (N' := (s185_p16_den K)) (X := (fun i => (bif Nat.beq i 0 then (fun s w => s185_p1 K (s 0) (s 4) (s 5) w) else (fun _ _ => False)))) (X' := (fun i => (bif Nat.beq i 0 then (s185_p1_den K) else (fun _ _ => False)))) (R := s185_R K) (s := s) (w := w) (p := s185_p17 K (s 0) (s 3) (s 4) (s 5) (s 7) w) (q := s185_p17_den K s w) (fun s w h => s185_p16_ok K s w @h) (fun i => (tr_bif (fun s w h => s185_p1_ok K s w @h) tr_id)) (by kernel_rfl) (by kernel_rfl) @h
def s185_p18 (K : Value → World → Prop) (t0 t1 : Value) (w : World) : Prop :=
  nw 52 (t1).cells (fun t3 w =>
  nw 94 #[(.int .i64 0), (.int .u8 0), (.int .i64 0), (.int .i64 0), (.int .i64 0), (.int .i64 0), (.int .i64 0), (.slice none 0 0), (.int .i64 0), (.int .i64 0), (.int .i64 0), (.slice none 0 0), (.int .i64 0), (.int .i64 0), (.int .i64 0), (.int .i64 0), (.int .i64 0), (.int .i64 0), (.slice none 0 0), (.int .i64 0), (.int .i64 0), (.int .i64 0), (.int .i64 0), (.int .i64 0), (.int .i64 0), (.int .i64 0), (.int .i64 0), (.int .i64 0), (.int .i64 0), (.int .i64 0), (.int .i64 0), (.int .i64 0), (.int .i64 0), (.int .i64 0)] (fun t4 w =>
  nw 94 #[(.int .i64 0), (.int .u8 0), (.int .i64 0), (.int .i64 0), (.int .i64 0), (.int .i64 0), (.int .i64 0), (.slice none 0 0), (.int .i64 0), (.int .i64 0), (.int .i64 0), (.slice none 0 0), (.int .i64 0), (.int .i64 0), (.int .i64 0), (.int .i64 0), (.int .i64 0), (.int .i64 0), (.slice none 0 0), (.int .i64 0), (.int .i64 0), (.int .i64 0), (.int .i64 0), (.int .i64 0), (.int .i64 0), (.int .i64 0), (.int .i64 0), (.int .i64 0), (.int .i64 0), (.int .i64 0), (.int .i64 0), (.int .i64 0), (.int .i64 0), (.int .i64 0)] (fun t5 w =>
  fd 0 t3 (fun t6 w =>
  ld1 t6 (fun t7 w =>
  s185_p17 K t0 t3 t4 t5 t7 w) w) w) w) w) w
def s185_p18_den (K : Value → World → Prop) : (Nat → Value) → World → Prop := denL Tryz.prog [(cd (Tryz.f185.body.getD .skip) [0]), (cd (Tryz.f185.body.getD .skip) [1, 0]), (cd (Tryz.f185.body.getD .skip) [1, 1, 0, 0])] (s185_p17_den K) (fun i => (fun _ _ => False)) (s185_R K)
theorem s185_p18_ok (K : Value → World → Prop) (s : Nat → Value) (w : World) (h : s185_p18 K (s 0) (s 1) w) : Tr (s185_p18_den K s w) :=
  tr_simple (P := Tryz.prog) (codes := [(cd (Tryz.f185.body.getD .skip) [0]), (cd (Tryz.f185.body.getD .skip) [1, 0]), (cd (Tryz.f185.body.getD .skip) [1, 1, 0, 0])]) (N := (fun s w => s185_p17 K (s 0) (s 3) (s 4) (s 5) (s 7) w)) (N' := (s185_p17_den K)) (X := (fun i => (fun _ _ => False))) (X' := (fun i => (fun _ _ => False))) (R := s185_R K) (s := s) (w := w) (p := s185_p18 K (s 0) (s 1) w) (q := s185_p18_den K s w) (fun s w h => s185_p17_ok K s w @h) (fun i => tr_id) (by kernel_rfl) (by kernel_rfl) @h
/-- the call, from the text -/
theorem c185 (t0 t1 : Value) {K : Value → World → Prop} {w : World} (h : s185_p18 K t0 t1 w) : cl Tryz.prog 185 #[t0, t1] K w :=
  calls_of_tr (c := (Tryz.f185.body.getD .skip)) (fn := Tryz.f185) (q := s185_p18_den K (st0 #[t0, t1]) w) Tryz.func185 (by kernel_rfl) (by kernel_rfl) (Nat.le_of_ble_eq_true (by kernel_rfl)) (by kernel_rfl) (by kernel_rfl) (s185_p18_ok K (st0 #[t0, t1]) w @h)

/-! ### function 217 : (*e2e.engine.Engine).get -/
def s217_R (K : Value → World → Prop) (s : Nat → Value) (w : World) : Prop := retv Tryz.prog s Tryz.f217.results.toList (fun vs => K (pack vs) w) w
def s217_p1 (K : Value → World → Prop) (t3 t4 t5 t6 : Value) (w : World) : Prop :=
  un .not t6 (fun t18 w =>
  ifb t18
  (cl Tryz.prog 129 #[(.int .i64 2)] (fun t19 w =>
  stn 34 t4 t19 (fun w =>
  ldn 34 t4 (fun r0 _ =>
  K r0 w) w) w) w)
  (fd 0 t3 (fun t20 w =>
  ld1 t20 (fun t21 w =>
  ldn 7 t5 (fun t22 w =>
  bsq 85 [(.int .i64 0), (.int .i64 0), (.int .i64 0), (.int .i64 0), (.int .i64 0), (.int .i64 0), (.slice none 0 0)] 1 [(some (0, 7), t22)] (fun t23 w =>
  bdq [(.int .i64 0), (.int .u8 0), (.int .i64 0), (.int .i64 0), (.int .i64 0), (.int .i64 0), (.int .i64 0), (.slice none 0 0), (.int .i64 0), (.int .i64 0), (.int .i64 0), (.slice none 0 0), (.int .i64 0), (.int .i64 0), (.int .i64 0), (.int .i64 0), (.int .i64 0), (.int .i64 0), (.slice none 0 0), (.int .i64 0), (.int .i64 0), (.int .i64 0), (.int .i64 0), (.int .i64 0), (.int .i64 0), (.int .i64 0), (.int .i64 0), (.int .i64 0), (.int .i64 0), (.int .i64 0), (.int .i64 0), (.int .i64 0), (.int .i64 0), (.int .i64 0)] [(some (1, 1), t21), (some (11, 1), t23)] (fun t24 w =>
  stn 34 t4 t24 (fun w =>
  ldn 34 t4 (fun r0 _ =>
  K r0 w) w) w) w) w) w) w) w)) w
def s217_p1_den (K : Value → World → Prop) : (Nat → Value) → World → Prop := denL Tryz.prog [(cd (Tryz.f217.body.getD .skip) [1, 1, 0, 0]), (cd (Tryz.f217.body.getD .skip) [1, 1, 0, 1]), (cd (Tryz.f217.body.getD .skip) [1, 1, 1, 0]), (cd (Tryz.f217.body.getD .skip) [1, 1, 1, 1])] (fun _ _ => False) (fun i => (fun _ _ => False)) (s217_R K)
theorem s217_p1_ok (K : Value → World → Prop) (s : Nat → Value) (w : World) (h : s217_p1 K (s 3) (s 4) (s 5) (s 6) w) : Tr (s217_p1_den K s w) :=
  tr_simple (P := Tryz.prog) (codes := [(cd (Tryz.f217.body.getD .skip) [1, 1, 0, 0]), (cd (Tryz.f217.body.getD .skip) [1, 1, 0, 1]), (cd (Tryz.f217.body.getD .skip) [1, 1, 1, 0]), (cd (Tryz.f217.body.getD .skip) [1, 1, 1, 1])]) (N := (fun _ _ => False)) (N' := (fun _ _ => False)) (X := (fun i => (fun _ _ => False))) (X' := (fun i => (fun _ _ => False))) (R := s217_R K) (s := s) (w := w) (p := s217_p1 K (s 3) (s 4) (s 5) (s 6) w) (q := s217_p1_den K s w) tr_id (fun i => tr_id) (by kernel_rfl) (by kernel_rfl) @h
def s217_p2_d (K : Value → World → Prop) (t0 t3 t4 : Value) (w0 w : World) : Prop :=
  nck t0 (fun t9 _ =>
  fd 15 t9 (fun t10 _ =>
  ld1 t10 (fun t11 _ =>
  fd 1 t3 (fun t12 _ =>
  ld1 t12 (fun t13 _ =>
  (cl Tryz.prog 163 #[t11, t13] (fun t14 w =>
  ((exq t14 0 (fun t15 w =>
  (exq t14 1 (fun t16 w =>
  nw 85 #[(.int .i64 0), (.int .i64 0), (.int .i64 0), (.int .i64 0), (.int .i64 0), (.int .i64 0), (.slice none 0 0)] (fun t5 w =>
  Below w0.heap.size w0 w ∧
  stn 7 t5 t15 (fun w =>
  s217_p1 K t3 t4 t5 t16 w) w) w) w) ∧
  (nw 85 #[(.int .i64 0), (.int .i64 0), (.int .i64 0), (.int .i64 0), (.int .i64 0), (.int .i64 0), (.slice none 0 0)] (fun t5_2 w =>
  Below w0.heap.size w0 w ∧
  (exq t14 1 (fun t16_2 w =>
  stn 7 t5_2 t15 (fun w =>
  s217_p1 K t3 t4 t5_2 t16_2 w) w) w) ∧
  (stn 7 t5_2 t15 (fun w =>
  exq t14 1 (fun t16_3 w =>
  s217_p1 K t3 t4 t5_2 t16_3 w) w) w)) w)) w) ∧
  (exq t14 1 (fun t16_4 w =>
  (exq t14 0 (fun t15_2 w =>
  nw 85 #[(.int .i64 0), (.int .i64 0), (.int .i64 0), (.int .i64 0), (.int .i64 0), (.int .i64 0), (.slice none 0 0)] (fun t5_3 w =>
  Below w0.heap.size w0 w ∧
  stn 7 t5_3 t15_2 (fun w =>
  s217_p1 K t3 t4 t5_3 t16_4 w) w) w) w) ∧
  (nw 85 #[(.int .i64 0), (.int .i64 0), (.int .i64 0), (.int .i64 0), (.int .i64 0), (.int .i64 0), (.slice none 0 0)] (fun t5_4 w =>
  Below w0.heap.size w0 w ∧
  exq t14 0 (fun t15_3 w =>
  stn 7 t5_4 t15_3 (fun w =>
  s217_p1 K t3 t4 t5_4 t16_4 w) w) w) w)) w) ∧
  (nw 85 #[(.int .i64 0), (.int .i64 0), (.int .i64 0), (.int .i64 0), (.int .i64 0), (.int .i64 0), (.slice none 0 0)] (fun t5_5 w =>
  Below w0.heap.size w0 w ∧
  (exq t14 0 (fun t15_4 w =>
  (exq t14 1 (fun t16_5 w =>
  stn 7 t5_5 t15_4 (fun w =>
  s217_p1 K t3 t4 t5_5 t16_5 w) w) w) ∧
  (stn 7 t5_5 t15_4 (fun w =>
  exq t14 1 (fun t16_6 w =>
  s217_p1 K t3 t4 t5_5 t16_6 w) w) w)) w) ∧
  (exq t14 1 (fun t16_7 w =>
  exq t14 0 (fun t15_5 w =>
  stn 7 t5_5 t15_5 (fun w =>
  s217_p1 K t3 t4 t5_5 t16_7 w) w) w) w)) w)) ∧
  (nw 85 #[(.int .i64 0), (.int .i64 0), (.int .i64 0), (.int .i64 0), (.int .i64 0), (.int .i64 0), (.slice none 0 0)] (fun t5_6 w =>
  Below w0.heap.size w0 w ∧
  (exq t14 0 (fun t15_6 w =>
  (exq t14 1 (fun t16_8 w =>
  stn 7 t5_6 t15_6 (fun w =>
  s217_p1 K t3 t4 t5_6 t16_8 w) w) w) ∧
  (stn 7 t5_6 t15_6 (fun w =>
  exq t14 1 (fun t16_9 w =>
  s217_p1 K t3 t4 t5_6 t16_9 w) w) w)) w) ∧
  (exq t14 1 (fun t16_10 w =>
  exq t14 0 (fun t15_7 w =>
  stn 7 t5_6 t15_7 (fun w =>
  s217_p1 K t3 t4 t5_6 t16_10 w) w) w) w)) w)) w) ∧
  (nw 85 #[(.int .i64 0), (.int .i64 0), (.int .i64 0), (.int .i64 0), (.int .i64 0), (.int .i64 0), (.slice none 0 0)] (fun t5_7 w =>
  Below w0.heap.size w0 w ∧
  cl Tryz.prog 163 #[t11, t13] (fun t14_2 w =>
  (exq t14_2 0 (fun t15_8 w =>
  (exq t14_2 1 (fun t16_11 w =>
  stn 7 t5_7 t15_8 (fun w =>
  s217_p1 K t3 t4 t5_7 t16_11 w) w) w) ∧
  (stn 7 t5_7 t15_8 (fun w =>
  exq t14_2 1 (fun t16_12 w =>
  s217_p1 K t3 t4 t5_7 t16_12 w) w) w)) w) ∧
  (exq t14_2 1 (fun t16_13 w =>
  exq t14_2 0 (fun t15_9 w =>
  stn 7 t5_7 t15_9 (fun w =>
  s217_p1 K t3 t4 t5_7 t16_13 w) w) w) w)) w) w)) w0) w0) w0) w0) w0
def s217_p2 (K : Value → World → Prop) (t0 t3 t4 : Value) (w : World) : Prop := s217_p2_d K t0 t3 t4 (drw w) (drw w)
def s217_p2_den (K : Value → World → Prop) : (Nat → Value) → World → Prop := denL Tryz.prog [(cd (Tryz.f217.body.getD .skip) [1, 0])] (s217_p1_den K) (fun i => (fun _ _ => False)) (s217_R K)
theorem s217_p2_ok (K : Value → World → Prop) (s : Nat → Value) (w : World) (h : s217_p2 K (s 0) (s 3) (s 4) w) : Tr (s217_p2_den K s w) :=
  tr_draw (P := Tryz.prog) (ops := (ro (cd (Tryz.f217.body.getD .skip) [1, 0]))) (ms := [0, 1, 3, 7, 0, 16, 63, 127, 255, 255, 0, 1535, 4095]) (cs := [0, 1, 2, 3, 4, 5]) (N := (fun s w => s217_p1 K (s 3) (s 4) (s 5) (s 6) w)) (N' := (s217_p1_den K)) (s := s) (w := w) (p := s217_p2 K (s 0) (s 3) (s 4) w) (q := s217_p2_den K s w) (by kernel_rfl) (by kernel_rfl) (fun s w h => s217_p1_ok K s w @h) (by kernel_rfl) (by kernel_rfl) @h
def s217_p3 (K : Value → World → Prop) (t0 t1 : Value) (w : World) : Prop :=
  nw 52 (t1).cells (fun t3 w =>
  nw 94 #[(.int .i64 0), (.int .u8 0), (.int .i64 0), (.int .i64 0), (.int .i64 0), (.int .i64 0), (.int .i64 0), (.slice none 0 0), (.int .i64 0), (.int .i64 0), (.int .i64 0), (.slice none 0 0), (.int .i64 0), (.int .i64 0), (.int .i64 0), (.int .i64 0), (.int .i64 0), (.int .i64 0), (.slice none 0 0), (.int .i64 0), (.int .i64 0), (.int .i64 0), (.int .i64 0), (.int .i64 0), (.int .i64 0), (.int .i64 0), (.int .i64 0), (.int .i64 0), (.int .i64 0), (.int .i64 0), (.int .i64 0), (.int .i64 0), (.int .i64 0), (.int .i64 0)] (fun t4 w =>
  s217_p2 K t0 t3 t4 w) w) w
def s217_p3_den (K : Value → World → Prop) : (Nat → Value) → World → Prop := denL Tryz.prog [(cd (Tryz.f217.body.getD .skip) [0])] (s217_p2_den K) (fun i => (fun _ _ => False)) (s217_R K)
theorem s217_p3_ok (K : Value → World → Prop) (s : Nat → Value) (w : World) (h : s217_p3 K (s 0) (s 1) w) : Tr (s217_p3_den K s w) :=
  tr_simple (P := Tryz.prog) (codes := [(cd (Tryz.f217.body.getD .skip) [0])]) (N := (fun s w => s217_p2 K (s 0) (s 3) (s 4) w)) (N' := (s217_p2_den K)) (X := (fun i => (fun _ _ => False))) (X' := (fun i => (fun _ _ => False))) (R := s217_R K) (s := s) (w := w) (p := s217_p3 K (s 0) (s 1) w) (q := s217_p3_den K s w) (fun s w h => s217_p2_ok K s w @h) (fun i => tr_id) (by kernel_rfl) (by kernel_rfl) @h
/-- the call, from the text -/
theorem c217 (t0 t1 : Value) {K : Value → World → Prop} {w : World} (h : s217_p3 K t0 t1 w) : cl Tryz.prog 217 #[t0, t1] K w :=
  calls_of_tr (c := (Tryz.f217.body.getD .skip)) (fn := Tryz.f217) (q := s217_p3_den K (st0 #[t0, t1]) w) Tryz.func217 (by kernel_rfl) (by kernel_rfl) (Nat.le_of_ble_eq_true (by kernel_rfl)) (by kernel_rfl) (by kernel_rfl) (s217_p3_ok K (st0 #[t0, t1]) w @h)

/-! ### function 218 : (*e2e.engine.Engine).list -/
def s218_R (K : Value → World → Prop) (s : Nat → Value) (w : World) : Prop := retv Tryz.prog s Tryz.f218.results.toList (fun vs => K (pack vs) w) w
def s218_p1 (K : Value → World → Prop) (t4 t7 : Value) (w : World) : Prop :=
  ldn 34 t7 (fun t70 w =>
  stn 34 t4 t70 (fun w =>
  ldn 34 t4 (fun r0 _ =>
  K r0 w) w) w) w
def s218_p1_den (K : Value → World → Prop) : (Nat → Value) → World → Prop := denL Tryz.prog [(cd (Tryz.f218.body.getD .skip) [1, 1, 1, 1, 1, 1, 1, 1, 0]), (cd (Tryz.f218.body.getD .skip) [1, 1, 1, 1, 1, 1, 1, 1, 1])] (fun _ _ => False) (fun i => (fun _ _ => False)) (s218_R K)
theorem s218_p1_ok (K : Value → World → Prop) (s : Nat → Value) (w : World) (h : s218_p1 K (s 4) (s 7) w) : Tr (s218_p1_den K s w) :=
  tr_simple (P := Tryz.prog) (codes := [(cd (Tryz.f218.body.getD .skip) [1, 1, 1, 1, 1, 1, 1, 1, 0]), (cd (Tryz.f218.body.getD .skip) [1, 1, 1, 1, 1, 1, 1, 1, 1])]) (N := (fun _ _ => False)) (N' := (fun _ _ => False)) (X := (fun i => (fun _ _ => False))) (X' := (fun i => (fun _ _ => False))) (R := s218_R K) (s := s) (w := w) (p := s218_p1 K (s 4) (s 7) w) (q := s218_p1_den K s w) tr_id (fun i => tr_id) (by kernel_rfl) (by kernel_rfl) @h
def s218_p2 (K : Value → World → Prop) (B1 : List Value → World → Prop) (t0 t4 t5 t7 t8 t9 : Value) (w : World) : Prop :=
  boI .leq t9 t8 (fun t45 w =>
  ifb t45
  (fd 11 t7 (fun t48 w =>
  ld1 t48 (fun t49 w =>
  lnS t49 (fun t50 w =>
  boI .eql t50 t5 (fun t52 w =>
  ifb t52
  (fd 12 t7 (fun t54 w =>
  st1 t54 t9 (fun w =>
  s218_p1 K t4 t7 w) w) w)
  (nck t0 (fun t57 w =>
  fd 15 t57 (fun t58 w =>
  ld1 t58 (fun t59 w =>
  cl Tryz.prog 163 #[t59, t9] (fun t61 w =>
  exq t61 0 (fun t62 w =>
  exq t61 1 (fun t63 w =>
  nw 85 #[(.int .i64 0), (.int .i64 0), (.int .i64 0), (.int .i64 0), (.int .i64 0), (.int .i64 0), (.slice none 0 0)] (fun t10 w =>
  stn 7 t10 t62 (fun w =>
  fd 11 t7 (fun t64 w =>
  ld1 t64 (fun t65 w =>
  ldn 7 t10 (fun t66 w =>
  bsq 85 [(.int .i64 0), (.int .i64 0), (.int .i64 0), (.int .i64 0), (.int .i64 0), (.int .i64 0), (.slice none 0 0)] 1 [(some (0, 7), t66)] (fun t67 w =>
  apq 85 [(.int .i64 0), (.int .i64 0), (.int .i64 0), (.int .i64 0), (.int .i64 0), (.int .i64 0), (.slice none 0 0)] 72 t65 t67 (fun t68 w =>
  fd 11 t7 (fun t69 w =>
  st1 t69 t68 (fun w =>
  boI .add t9 (.int .i64 1) (fun t47 w =>
  B1 [t0, t4, t5, t7, t8, t47] w) w) w) w) w) w) w) w) w) w) w) w) w) w) w) w) w)) w) w) w) w)
  (s218_p1 K t4 t7 w)) w
def s218_p2_den (K : Value → World → Prop) (M1 : (Nat → Value) → World → Prop) : (Nat → Value) → World → Prop := denL Tryz.prog [(cd (Tryz.f218.body.getD .skip) [1, 1, 1, 1, 1, 1, 1, 0, 1, 0, 0, 0, 0]), (cd (Tryz.f218.body.getD .skip) [1, 1, 1, 1, 1, 1, 1, 0, 1, 0, 0, 0, 1]), (cd (Tryz.f218.body.getD .skip) [1, 1, 1, 1, 1, 1, 1, 0, 1, 0, 0, 1, 0]), (cd (Tryz.f218.body.getD .skip) [1, 1, 1, 1, 1, 1, 1, 0, 1, 0, 0, 1, 1])] M1 (fun i => (bif Nat.beq i 0 then (s218_p1_den K) else (fun _ _ => False))) (s218_R K)
theorem s218_p2_ok (K : Value → World → Prop) (B1 : List Value → World → Prop) (s : Nat → Value) (w : World) (h : s218_p2 K B1 (s 0) (s 4) (s 5) (s 7) (s 8) (s 9) w) : Tr (s218_p2_den K (fun s w => B1 [s 0, s 4, s 5, s 7, s 8, s 9] w) s w) :=
  tr_simple (P := Tryz.prog) (codes := [(cd (Tryz.f218.body.getD .skip) [1, 1, 1, 1, 1, 1, 1, 0, 1, 0, 0, 0, 0]), (cd (Tryz.f218.body.getD .skip) [1, 1, 1, 1, 1, 1, 1, 0, 1, 0, 0, 0, 1]), (cd (Tryz.f218.body.getD .skip) [1, 1, 1, 1, 1, 1, 1, 0, 1, 0, 0, 1, 0]), (cd (Tryz.f218.body.getD .skip) [1, 1, 1, 1, 1, 1, 1, 0, 1, 0, 0, 1, 1])]) (N := (fun s w => B1 [s 0, s 4, s 5, s 7, s 8, s 9] w)) (N' := (fun s w => B1 [s 0, s 4, s 5, s 7, s 8, s 9] w)) (X := (fun i => (bif Nat.beq i 0 then (fun s w => s218_p1 K (s 4) (s 7) w) else (fun _ _ => False)))) (X' := (fun i => (bif Nat.beq i 0 then (s218_p1_den K) else (fun _ _ => False)))) (R := s218_R K) (s := s) (w := w) (p := s218_p2 K B1 (s 0) (s 4) (s 5) (s 7) (s 8) (s 9) w) (q := s218_p2_den K (fun s w => B1 [s 0, s 4, s 5, s 7, s 8, s 9] w) s w) tr_id (fun i => (tr_bif (fun s w h => s218_p1_ok K s w @h) tr_id)) (by kernel_rfl) (by kernel_rfl) @h
def s218_p3_F (K : Value → World → Prop) (B1 : List Value → World → Prop) (l : List Value) (w : World) : Prop :=
  match l with
  | [t0, t4, t5, t7, t8, t9] => s218_p2 K B1 t0 t4 t5 t7 t8 t9 w
  | _ => False
theorem s218_p3_Fe {K : Value → World → Prop} {B1 : List Value → World → Prop} {t0 t4 t5 t7 t8 t9 : Value} {w : World} : s218_p3_F K B1 [t0, t4, t5, t7, t8, t9] w = s218_p2 K B1 t0 t4 t5 t7 t8 t9 w := by kernel_rfl
def s218_p3 (K : Value → World → Prop) (t0 t4 t5 t7 t8 t9 : Value) (w : World) : Prop :=
  LoopL (s218_p3_F K) [t0, t4, t5, t7, t8, t9] w
def s218_p3_den (K : Value → World → Prop) : (Nat → Value) → World → Prop := fun s w => LoopP (fun M1 s w => s218_p2_den K M1 s w) s w
theorem s218_p3_ok (K : Value → World → Prop) (s : Nat → Value) (w : World) (h : s218_p3 K (s 0) (s 4) (s 5) (s 7) (s 8) (s 9) w) : Tr (s218_p3_den K s w) :=
  tr_loop (G := fun N' s w => s218_p2_den K N' s w) (F := s218_p3_F K) (sel := fun s => [s 0, s 4, s 5, s 7, s 8, s 9]) (s := s) (w := w) (p := s218_p3 K (s 0) (s 4) (s 5) (s 7) (s 8) (s 9) w) (q := s218_p3_den K s w) (fun B s w h => s218_p2_ok K B s w @h) (by kernel_rfl) (by kernel_rfl) @h
def s218_p4 (K : Value → World → Prop) (t0 t3 t4 t5 t6 : Value) (w : World) : Prop :=
  fd 0 t3 (fun t34 w =>
  ld1 t34 (fun t35 w =>
  bdq [(.int .i64 0), (.int .u8 0), (.int .i64 0), (.int .i64 0), (.int .i64 0), (.int .i64 0), (.int .i64 0), (.slice none 0 0), (.int .i64 0), (.int .i64 0), (.int .i64 0), (.slice none 0 0), (.int .i64 0), (.int .i64 0), (.int .i64 0), (.int .i64 0), (.int .i64 0), (.int .i64 0), (.slice none 0 0), (.int .i64 0), (.int .i64 0), (.int .i64 0), (.int .i64 0), (.int .i64 0), (.int .i64 0), (.int .i64 0), (.int .i64 0), (.int .i64 0), (.int .i64 0), (.int .i64 0), (.int .i64 0), (.int .i64 0), (.int .i64 0), (.int .i64 0)] [(some (1, 1), t35)] (fun t36 w =>
  nw 94 #[(.int .i64 0), (.int .u8 0), (.int .i64 0), (.int .i64 0), (.int .i64 0), (.int .i64 0), (.int .i64 0), (.slice none 0 0), (.int .i64 0), (.int .i64 0), (.int .i64 0), (.slice none 0 0), (.int .i64 0), (.int .i64 0), (.int .i64 0), (.int .i64 0), (.int .i64 0), (.int .i64 0), (.slice none 0 0), (.int .i64 0), (.int .i64 0), (.int .i64 0), (.int .i64 0), (.int .i64 0), (.int .i64 0), (.int .i64 0), (.int .i64 0), (.int .i64 0), (.int .i64 0), (.int .i64 0), (.int .i64 0), (.int .i64 0), (.int .i64 0), (.int .i64 0)] (fun t7 w =>
  stn 34 t7 t36 (fun w =>
  nck t0 (fun t38 w =>
  fd 15 t38 (fun t39 w =>
  ld1 t39 (fun t40 w =>
  cl Tryz.prog 162 #[t40] (fun t41 w =>
  s218_p3 K t0 t4 t5 t7 t41 t6 w) w) w) w) w) w) w) w) w) w
def s218_p4_den (K : Value → World → Prop) : (Nat → Value) → World → Prop := denL Tryz.prog [(cd (Tryz.f218.body.getD .skip) [1, 1, 1, 1, 1, 0]), (cd (Tryz.f218.body.getD .skip) [1, 1, 1, 1, 1, 1, 0]), (cd (Tryz.f218.body.getD .skip) [1, 1, 1, 1, 1, 1, 1, 0, 0])] (s218_p3_den K) (fun i => (fun _ _ => False)) (s218_R K)
theorem s218_p4_ok (K : Value → World → Prop) (s : Nat → Value) (w : World) (h : s218_p4 K (s 0) (s 3) (s 4) (s 5) (s 6) w) : Tr (s218_p4_den K s w) :=
  tr_simple (P := Tryz.prog) (codes := [(cd (Tryz.f218.body.getD .skip) [1, 1, 1, 1, 1, 0]), (cd (Tryz.f218.body.getD .skip) [1, 1, 1, 1, 1, 1, 0]), (cd (Tryz.f218.body.getD .skip) [1, 1, 1, 1, 1, 1, 1, 0, 0])]) (N := (fun s w => s218_p3 K (s 0) (s 4) (s 5) (s 7) (s 8) (s 9) w)) (N' := (s218_p3_den K)) (X := (fun i => (fun _ _ => False))) (X' := (fun i => (fun _ _ => False))) (R := s218_R K) (s := s) (w := w) (p := s218_p4 K (s 0) (s 3) (s 4) (s 5) (s 6) w) (q := s218_p4_den K s w) (fun s w h => s218_p3_ok K s w @h) (fun i => tr_id) (by kernel_rfl) (by kernel_rfl) @h
def s218_p5 (K : Value → World → Prop) (t0 t3 t4 t5 : Value) (w : World) : Prop :=
  fd 1 t3 (fun t30 w =>
  ld1 t30 (fun t31 w =>
  boI .lss t31 (.int .i64 1) (fun t33 w =>
  ifb t33
  (s218_p4 K t0 t3 t4 t5 (.int .i64 1) w)
  (s218_p4 K t0 t3 t4 t5 t31 w)) w) w) w
def s218_p5_den (K : Value → World → Prop) : (Nat → Value) → World → Prop := denL Tryz.prog [(cd (Tryz.f218.body.getD .skip) [1, 1, 1, 0]), (cd (Tryz.f218.body.getD .skip) [1, 1, 1, 1, 0, 0]), (cd (Tryz.f218.body.getD .skip) [1, 1, 1, 1, 0, 1])] (s218_p4_den K) (fun i => (fun _ _ => False)) (s218_R K)
theorem s218_p5_ok (K : Value → World → Prop) (s : Nat → Value) (w : World) (h : s218_p5 K (s 0) (s 3) (s 4) (s 5) w) : Tr (s218_p5_den K s w) :=
  tr_simple (P := Tryz.prog) (codes := [(cd (Tryz.f218.body.getD .skip) [1, 1, 1, 0]), (cd (Tryz.f218.body.getD .skip) [1, 1, 1, 1, 0, 0]), (cd (Tryz.f218.body.getD .skip) [1, 1, 1, 1, 0, 1])]) (N := (fun s w => s218_p4 K (s 0) (s 3) (s 4) (s 5) (s 6) w)) (N' := (s218_p4_den K)) (X := (fun i => (fun _ _ => False))) (X' := (fun i => (fun _ _ => False))) (R := s218_R K) (s := s) (w := w) (p := s218_p5 K (s 0) (s 3) (s 4) (s 5) w) (q := s218_p5_den K s w) (fun s w h => s218_p4_ok K s w @h) (fun i => tr_id) (by kernel_rfl) (by kernel_rfl) @h
def s218_p6 (K : Value → World → Prop) (t0 t1 : Value) (w : World) : Prop :=
  nw 52 (t1).cells (fun t3 w =>
  nw 94 #[(.int .i64 0), (.int .u8 0), (.int .i64 0), (.int .i64 0), (.int .i64 0), (.int .i64 0), (.int .i64 0), (.slice none 0 0), (.int .i64 0), (.int .i64 0), (.int .i64 0), (.slice none 0 0), (.int .i64 0), (.int .i64 0), (.int .i64 0), (.int .i64 0), (.int .i64 0), (.int .i64 0), (.slice none 0 0), (.int .i64 0), (.int .i64 0), (.int .i64 0), (.int .i64 0), (.int .i64 0), (.int .i64 0), (.int .i64 0), (.int .i64 0), (.int .i64 0), (.int .i64 0), (.int .i64 0), (.int .i64 0), (.int .i64 0), (.int .i64 0), (.int .i64 0)] (fun t4 w =>
  fd 6 t3 (fun t12 w =>
  ld1 t12 (fun t13 w =>
  boI .eql t13 (.int .i64 0) (fun t15 w =>
  gd t15 false (fun K w => K t13 w) (fun t17 w =>
  gd t15 false (fun K w => K t0 w) (fun t18 w =>
  gd t15 false (nck t18) (fun t19 w =>
  gd t15 false (fd 0 t19) (fun t20 w =>
  gd t15 false (fd 12 t20) (fun t21 w =>
  gd t15 false (ld1 t21) (fun t22 w =>
  gd t15 false (boI .gtr t17 t22) (fun t23 w =>
  pk t15 (.bool true) t23 (fun t24 w =>
  ifb t24
  (nck t0 (fun t26 w =>
  fd 0 t26 (fun t27 w =>
  fd 12 t27 (fun t28 w =>
  ld1 t28 (fun t29 w =>
  s218_p5 K t0 t3 t4 t29 w) w) w) w) w)
  (s218_p5 K t0 t3 t4 t13 w)) w) w) w) w) w) w) w) w) w) w) w) w) w
def s218_p6_den (K : Value → World → Prop) : (Nat → Value) → World → Prop := denL Tryz.prog [(cd (Tryz.f218.body.getD .skip) [0]), (cd (Tryz.f218.body.getD .skip) [1, 0]), (cd (Tryz.f218.body.getD .skip) [1, 1, 0, 0]), (cd (Tryz.f218.body.getD .skip) [1, 1, 0, 1])] (s218_p5_den K) (fun i => (fun _ _ => False)) (s218_R K)
theorem s218_p6_ok (K : Value → World → Prop) (s : Nat → Value) (w : World) (h : s218_p6 K (s 0) (s 1) w) : Tr (s218_p6_den K s w) :=
  tr_simple (P := Tryz.prog) (codes := [(cd (Tryz.f218.body.getD .skip) [0]), (cd (Tryz.f218.body.getD .skip) [1, 0]), (cd (Tryz.f218.body.getD .skip) [1, 1, 0, 0]), (cd (Tryz.f218.body.getD .skip) [1, 1, 0, 1])]) (N := (fun s w => s218_p5 K (s 0) (s 3) (s 4) (s 5) w)) (N' := (s218_p5_den K)) (X := (fun i => (fun _ _ => False))) (X' := (fun i => (fun _ _ => False))) (R := s218_R K) (s := s) (w := w) (p := s218_p6 K (s 0) (s 1) w) (q := s218_p6_den K s w) (fun s w h => s218_p5_ok K s w @h) (fun i => tr_id) (by kernel_rfl) (by kernel_rfl) @h
/-- the call, from the text -/
theorem c218 (t0 t1 : Value) {K : Value → World → Prop} {w : World} (h : s218_p6 K t0 t1 w) : cl Tryz.prog 218 #[t0, t1] K w :=
  calls_of_tr (c := (Tryz.f218.body.getD .skip)) (fn := Tryz.f218) (q := s218_p6_den K (st0 #[t0, t1]) w) Tryz.func218 (by kernel_rfl) (by kernel_rfl) (Nat.le_of_ble_eq_true (by kernel_rfl)) (by kernel_rfl) (by kernel_rfl) (s218_p6_ok K (st0 #[t0, t1]) w @h)

/-! ### function 219 : (*e2e.engine.Engine).slot -/
def s219_R (K : Value → World → Prop) (s : Nat → Value) (w : World) : Prop := retv Tryz.prog s Tryz.f219.results.toList (fun vs => K (pack vs) w) w
def s219_p1 (K : Value → World → Prop) (t4 t5 t7 t8 : Value) (w : World) : Prop :=
  fd 0 t7 (fun t75 w =>
  ld1 t75 (fun t76 w =>
  boI .sub t76 t8 (fun t78 w =>
  fd 17 t5 (fun t79 w =>
  st1 t79 t78 (fun w =>
  ldn 34 t5 (fun t80 w =>
  stn 34 t4 t80 (fun w =>
  ldn 34 t4 (fun r0 _ =>
  K r0 w) w) w) w) w) w) w) w) w
def s219_p1_den (K : Value → World → Prop) : (Nat → Value) → World → Prop := denL Tryz.prog [(cd (Tryz.f219.body.getD .skip) [1, 1, 1, 1, 1, 1, 0]), (cd (Tryz.f219.body.getD .skip) [1, 1, 1, 1, 1, 1, 1, 0]), (cd (Tryz.f219.body.getD .skip) [1, 1, 1, 1, 1, 1, 1, 1])] (fun _ _ => False) (fun i => (fun _ _ => False)) (s219_R K)
theorem s219_p1_ok (K : Value → World → Prop) (s : Nat → Value) (w : World) (h : s219_p1 K (s 4) (s 5) (s 7) (s 8) w) : Tr (s219_p1_den K s w) :=
  tr_simple (P := Tryz.prog) (codes := [(cd (Tryz.f219.body.getD .skip) [1, 1, 1, 1, 1, 1, 0]), (cd (Tryz.f219.body.getD .skip) [1, 1, 1, 1, 1, 1, 1, 0]), (cd (Tryz.f219.body.getD .skip) [1, 1, 1, 1, 1, 1, 1, 1])]) (N := (fun _ _ => False)) (N' := (fun _ _ => False)) (X := (fun i => (fun _ _ => False))) (X' := (fun i => (fun _ _ => False))) (R := s219_R K) (s := s) (w := w) (p := s219_p1 K (s 4) (s 5) (s 7) (s 8) w) (q := s219_p1_den K s w) tr_id (fun i => tr_id) (by kernel_rfl) (by kernel_rfl) @h
def s219_p2 (K : Value → World → Prop) (B1 : List Value → World → Prop) (t0 t3 t4 t5 t7 t8 t9 : Value) (w : World) : Prop :=
  boI .add t9 (.int .i64 1) (fun t62 w =>
  B1 [t0, t3, t4, t5, t7, t8, t62] w) w
def s219_p2_den (K : Value → World → Prop) (M1 : (Nat → Value) → World → Prop) : (Nat → Value) → World → Prop := denL Tryz.prog [(cd (Tryz.f219.body.getD .skip) [1, 1, 1, 1, 1, 0, 1, 0, 0, 1, 1])] M1 (fun i => (bif Nat.beq i 2 then (s219_p1_den K) else (fun _ _ => False))) (s219_R K)
theorem s219_p2_ok (K : Value → World → Prop) (B1 : List Value → World → Prop) (s : Nat → Value) (w : World) (h : s219_p2 K B1 (s 0) (s 3) (s 4) (s 5) (s 7) (s 8) (s 9) w) : Tr (s219_p2_den K (fun s w => B1 [s 0, s 3, s 4, s 5, s 7, s 8, s 9] w) s w) :=
  tr_simple (P := Tryz.prog) (codes := [(cd (Tryz.f219.body.getD .skip) [1, 1, 1, 1, 1, 0, 1, 0, 0, 1, 1])]) (N := (fun s w => B1 [s 0, s 3, s 4, s 5, s 7, s 8, s 9] w)) (N' := (fun s w => B1 [s 0, s 3, s 4, s 5, s 7, s 8, s 9] w)) (X := (fun i => (bif Nat.beq i 2 then (fun s w => s219_p1 K (s 4) (s 5) (s 7) (s 8) w) else (fun _ _ => False)))) (X' := (fun i => (bif Nat.beq i 2 then (s219_p1_den K) else (fun _ _ => False)))) (R := s219_R K) (s := s) (w := w) (p := s219_p2 K B1 (s 0) (s 3) (s 4) (s 5) (s 7) (s 8) (s 9) w) (q := s219_p2_den K (fun s w => B1 [s 0, s 3, s 4, s 5, s 7, s 8, s 9] w) s w) tr_id (fun i => (tr_bif (fun s w h => s219_p1_ok K s w @h) tr_id)) (by kernel_rfl) (by kernel_rfl) @h
def s219_p3 (K : Value → World → Prop) (B1 : List Value → World → Prop) (t0 t3 t4 t5 t7 t8 t9 t10 : Value) (w : World) : Prop :=
  boI .gtr t10 t8 (fun t73 w =>
  ifb t73
  (s219_p2 K B1 t0 t3 t4 t5 t7 t10 t9 w)
  (s219_p2 K B1 t0 t3 t4 t5 t7 t8 t9 w)) w
def s219_p3_den (K : Value → World → Prop) (M1 : (Nat → Value) → World → Prop) : (Nat → Value) → World → Prop := denL Tryz.prog [(cd (Tryz.f219.body.getD .skip) [1, 1, 1, 1, 1, 0, 1, 0, 0, 1, 0, 0, 1, 0]), (cd (Tryz.f219.body.getD .skip) [1, 1, 1, 1, 1, 0, 1, 0, 0, 1, 0, 0, 1, 1])] (s219_p2_den K M1) (fun i => (bif Nat.beq i 3 then (s219_p2_den K M1) else (bif Nat.beq i 2 then (s219_p1_den K) else (fun _ _ => False)))) (s219_R K)
theorem s219_p3_ok (K : Value → World → Prop) (B1 : List Value → World → Prop) (s : Nat → Value) (w : World) (h : s219_p3 K B1 (s 0) (s 3) (s 4) (s 5) (s 7) (s 8) (s 9) (s 10) w) : Tr (s219_p3_den K (fun s w => B1 [s 0, s 3, s 4, s 5, s 7, s 8, s 9] w) s w) :=
  tr_simple (P := Tryz.prog) (codes := [(cd (Tryz.f219.body.getD .skip) [1, 1, 1, 1, 1, 0, 1, 0, 0, 1, 0, 0, 1, 0]), (cd (Tryz.f219.body.getD .skip) [1, 1, 1, 1, 1, 0, 1, 0, 0, 1, 0, 0, 1, 1])]) (N := (fun s w => s219_p2 K B1 (s 0) (s 3) (s 4) (s 5) (s 7) (s 8) (s 9) w)) (N' := (s219_p2_den K (fun s w => B1 [s 0, s 3, s 4, s 5, s 7, s 8, s 9] w))) (X := (fun i => (bif Nat.beq i 3 then (fun s w => s219_p2 K B1 (s 0) (s 3) (s 4) (s 5) (s 7) (s 8) (s 9) w) else (bif Nat.beq i 2 then (fun s w => s219_p1 K (s 4) (s 5) (s 7) (s 8) w) else (fun _ _ => False))))) (X' := (fun i => (bif Nat.beq i 3 then (s219_p2_den K (fun s w => B1 [s 0, s 3, s 4, s 5, s 7, s 8, s 9] w)) else (bif Nat.beq i 2 then (s219_p1_den K) else (fun _ _ => False))))) (R := s219_R K) (s := s) (w := w) (p := s219_p3 K B1 (s 0) (s 3) (s 4) (s 5) (s 7) (s 8) (s 9) (s 10) w) (q := s219_p3_den K (fun s w => B1 [s 0, s 3, s 4, s 5, s 7, s 8, s 9] w) s w) (fun s w h => s219_p2_ok K B1 s w @h) (fun i => (tr_bif (fun s w h => s219_p2_ok K B1 s w @h) (tr_bif (fun s w h => s219_p1_ok K s w @h) tr_id))) (by kernel_rfl) (by kernel_rfl) @h
def s219_p4_d (K : Value → World → Prop) (B1 : List Value → World → Prop) (t0 t3 t4 t5 t7 t8 t9 : Value) (w0 w : World) : Prop :=
  nck t0 (fun t64 _ =>
  fd 15 t64 (fun t65 _ =>
  ld1 t65 (fun t66 _ =>
  fd 2 t3 (fun t67 _ =>
  ld1 t67 (fun t68 _ =>
  cl Tryz.prog 198 #[t66, t68, t9] (fun t70 w =>
  s219_p3 K B1 t0 t3 t4 t5 t7 t8 t9 t70 w) w) w0) w0) w0) w0) w0
def s219_p4 (K : Value → World → Prop) (B1 : List Value → World → Prop) (t0 t3 t4 t5 t7 t8 t9 : Value) (w : World) : Prop := s219_p4_d K B1 t0 t3 t4 t5 t7 t8 t9 (drw w) (drw w)
def s219_p4_den (K : Value → World → Prop) (M1 : (Nat → Value) → World → Prop) : (Nat → Value) → World → Prop := denL Tryz.prog [(cd (Tryz.f219.body.getD .skip) [1, 1, 1, 1, 1, 0, 1, 0, 0, 1, 0, 0, 0])] (s219_p3_den K M1) (fun i => (bif Nat.beq i 3 then (s219_p2_den K M1) else (bif Nat.beq i 2 then (s219_p1_den K) else (fun _ _ => False)))) (s219_R K)
theorem s219_p4_ok (K : Value → World → Prop) (B1 : List Value → World → Prop) (s : Nat → Value) (w : World) (h : s219_p4 K B1 (s 0) (s 3) (s 4) (s 5) (s 7) (s 8) (s 9) w) : Tr (s219_p4_den K (fun s w => B1 [s 0, s 3, s 4, s 5, s 7, s 8, s 9] w) s w) :=
  tr_draw (P := Tryz.prog) (ops := (ro (cd (Tryz.f219.body.getD .skip) [1, 1, 1, 1, 1, 0, 1, 0, 0, 1, 0, 0, 0]))) (ms := [0, 1, 3, 7, 0, 16, 0, 127, 255]) (cs := [0, 1, 2, 3, 4, 5, 6]) (N := (fun s w => s219_p3 K B1 (s 0) (s 3) (s 4) (s 5) (s 7) (s 8) (s 9) (s 10) w)) (N' := (s219_p3_den K (fun s w => B1 [s 0, s 3, s 4, s 5, s 7, s 8, s 9] w))) (s := s) (w := w) (p := s219_p4 K B1 (s 0) (s 3) (s 4) (s 5) (s 7) (s 8) (s 9) w) (q := s219_p4_den K (fun s w => B1 [s 0, s 3, s 4, s 5, s 7, s 8, s 9] w) s w) (by kernel_rfl) (by kernel_rfl) (fun s w h => s219_p3_ok K B1 s w @h) (by kernel_rfl) (by kernel_rfl) @h
def s219_p5 (K : Value → World → Prop) (B1 : List Value → World → Prop) (t0 t3 t4 t5 t7 t8 t9 : Value) (w : World) : Prop :=
  fd 3 t3 (fun t55 w =>
  ld1 t55 (fun t56 w =>
  fd 1 t7 (fun t57 w =>
  ld1 t57 (fun t58 w =>
  boI .add t56 t58 (fun t59 w =>
  boI .lss t9 t59 (fun t60 w =>
  ifb t60
  (s219_p4 K B1 t0 t3 t4 t5 t7 t8 t9 w)
  (s219_p1 K t4 t5 t7 t8 w)) w) w) w) w) w) w
def s219_p5_den (K : Value → World → Prop) (M1 : (Nat → Value) → World → Prop) : (Nat → Value) → World → Prop := denL Tryz.prog [(cd (Tryz.f219.body.getD .skip) [1, 1, 1, 1, 1, 0, 1, 0, 0, 0, 0]), (cd (Tryz.f219.body.getD .skip) [1, 1, 1, 1, 1, 0, 1, 0, 0, 0, 1])] (s219_p4_den K M1) (fun i => (bif Nat.beq i 2 then (s219_p1_den K) else (fun _ _ => False))) (s219_R K)
theorem s219_p5_ok (K : Value → World → Prop) (B1 : List Value → World → Prop) (s : Nat → Value) (w : World) (h : s219_p5 K B1 (s 0) (s 3) (s 4) (s 5) (s 7) (s 8) (s 9) w) : Tr (s219_p5_den K (fun s w => B1 [s 0, s 3, s 4, s 5, s 7, s 8, s 9] w) s w) :=
  tr_simple (P := Tryz.prog) (codes := [(cd (Tryz.f219.body.getD .skip) [1, 1, 1, 1, 1, 0, 1, 0, 0, 0, 0]), (cd (Tryz.f219.body.getD .skip) [1, 1, 1, 1, 1, 0, 1, 0, 0, 0, 1])]) (N := (fun s w => s219_p4 K B1 (s 0) (s 3) (s 4) (s 5) (s 7) (s 8) (s 9) w)) (N' := (s219_p4_den K (fun s w => B1 [s 0, s 3, s 4, s 5, s 7, s 8, s 9] w))) (X := (fun i => (bif Nat.beq i 2 then (fun s w => s219_p1 K (s 4) (s 5) (s 7) (s 8) w) else (fun _ _ => False)))) (X' := (fun i => (bif Nat.beq i 2 then (s219_p1_den K) else (fun _ _ => False)))) (R := s219_R K) (s := s) (w := w) (p := s219_p5 K B1 (s 0) (s 3) (s 4) (s 5) (s 7) (s 8) (s 9) w) (q := s219_p5_den K (fun s w => B1 [s 0, s 3, s 4, s 5, s 7, s 8, s 9] w) s w) (fun s w h => s219_p4_ok K B1 s w @h) (fun i => (tr_bif (fun s w h => s219_p1_ok K s w @h) tr_id)) (by kernel_rfl) (by kernel_rfl) @h
def s219_p6_F (K : Value → World → Prop) (B1 : List Value → World → Prop) (l : List Value) (w : World) : Prop :=
  match l with
  | [t0, t3, t4, t5, t7, t8, t9] => s219_p5 K B1 t0 t3 t4 t5 t7 t8 t9 w
  | _ => False
theorem s219_p6_Fe {K : Value → World → Prop} {B1 : List Value → World → Prop} {t0 t3 t4 t5 t7 t8 t9 : Value} {w : World} : s219_p6_F K B1 [t0, t3, t4, t5, t7, t8, t9] w = s219_p5 K B1 t0 t3 t4 t5 t7 t8 t9 w := by kernel_rfl
def s219_p6 (K : Value → World → Prop) (t0 t3 t4 t5 t7 t8 t9 : Value) (w : World) : Prop :=
  LoopL (s219_p6_F K) [t0, t3, t4, t5, t7, t8, t9] w
def s219_p6_den (K : Value → World → Prop) : (Nat → Value) → World → Prop := fun s w => LoopP (fun M1 s w => s219_p5_den K M1 s w) s w
theorem s219_p6_ok (K : Value → World → Prop) (s : Nat → Value) (w : World) (h : s219_p6 K (s 0) (s 3) (s 4) (s 5) (s 7) (s 8) (s 9) w) : Tr (s219_p6_den K s w) :=
  tr_loop (G := fun N' s w => s219_p5_den K N' s w) (F := s219_p6_F K) (sel := fun s => [s 0, s 3, s 4, s 5, s 7, s 8, s 9]) (s := s) (w := w) (p := s219_p6 K (s 0) (s 3) (s 4) (s 5) (s 7) (s 8) (s 9) w) (q := s219_p6_den K s w) (fun B s w h => s219_p5_ok K B s w @h) (by kernel_rfl) (by kernel_rfl) @h
def s219_p7 (K : Value → World → Prop) (t0 t3 t4 t5 t7 : Value) (w : World) : Prop :=
  fd 13 t5 (fun t49 w =>
  ld1 t49 (fun t50 w =>
  fd 3 t3 (fun t51 w =>
  ld1 t51 (fun t52 w =>
  boI .add t52 (.int .i64 1) (fun t53 w =>
  s219_p6 K t0 t3 t4 t5 t7 t50 t53 w) w) w) w) w) w
def s219_p7_den (K : Value → World → Prop) : (Nat → Value) → World → Prop := denL Tryz.prog [(cd (Tryz.f219.body.getD .skip) [1, 1, 1, 1, 0]), (cd (Tryz.f219.body.getD .skip) [1, 1, 1, 1, 1, 0, 0])] (s219_p6_den K) (fun i => (fun _ _ => False)) (s219_R K)
theorem s219_p7_ok (K : Value → World → Prop) (s : Nat → Value) (w : World) (h : s219_p7 K (s 0) (s 3) (s 4) (s 5) (s 7) w) : Tr (s219_p7_den K s w) :=
  tr_simple (P := Tryz.prog) (codes := [(cd (Tryz.f219.body.getD .skip) [1, 1, 1, 1, 0]), (cd (Tryz.f219.body.getD .skip) [1, 1, 1, 1, 1, 0, 0])]) (N := (fun s w => s219_p6 K (s 0) (s 3) (s 4) (s 5) (s 7) (s 8) (s 9) w)) (N' := (s219_p6_den K)) (X := (fun i => (fun _ _ => False))) (X' := (fun i => (fun _ _ => False))) (R := s219_R K) (s := s) (w := w) (p := s219_p7 K (s 0) (s 3) (s 4) (s 5) (s 7) w) (q := s219_p7_den K s w) (fun s w h => s219_p6_ok K s w @h) (fun i => tr_id) (by kernel_rfl) (by kernel_rfl) @h
def s219_p8_d (K : Value → World → Prop) (t0 t3 t4 t5 : Value) (w0 w : World) : Prop :=
  nck t0 (fun t41 _ =>
  fd 0 t41 (fun t42 _ =>
  fd 0 t42 (fun t43 _ =>
  ld1 t43 (fun t44 _ =>
  fd 2 t3 (fun t45 _ =>
  ld1 t45 (fun t46 _ =>
  ixs 5 t44 t46 (fun t47 _ =>
  ldn 5 t47 (fun t48 _ =>
  nw 113 #[(.int .i64 0), (.int .i64 0), (.int .i64 0), (.int .i64 0), (.int .i64 0)] (fun t7 w =>
  Below w0.heap.size w0 w ∧
  stn 5 t7 t48 (fun w =>
  s219_p7 K t0 t3 t4 t5 t7 w) w) w) w0) w0) w0) w0) w0) w0) w0) w0
def s219_p8 (K : Value → World → Prop) (t0 t3 t4 t5 : Value) (w : World) : Prop := s219_p8_d K t0 t3 t4 t5 (drw w) (drw w)
def s219_p8_den (K : Value → World → Prop) : (Nat → Value) → World → Prop := denL Tryz.prog [(cd (Tryz.f219.body.getD .skip) [1, 1, 1, 0])] (s219_p7_den K) (fun i => (fun _ _ => False)) (s219_R K)
theorem s219_p8_ok (K : Value → World → Prop) (s : Nat → Value) (w : World) (h : s219_p8 K (s 0) (s 3) (s 4) (s 5) w) : Tr (s219_p8_den K s w) :=
  tr_draw (P := Tryz.prog) (ops := (ro (cd (Tryz.f219.body.getD .skip) [1, 1, 1, 0]))) (ms := [0, 1, 3, 7, 15, 0, 32, 127, 255, 0, 1023]) (cs := [0, 1, 2, 3, 4, 5, 6, 7, 8]) (N := (fun s w => s219_p7 K (s 0) (s 3) (s 4) (s 5) (s 7) w)) (N' := (s219_p7_den K)) (s := s) (w := w) (p := s219_p8 K (s 0) (s 3) (s 4) (s 5) w) (q := s219_p8_den K s w) (by kernel_rfl) (by kernel_rfl) (fun s w h => s219_p7_ok K s w @h) (by kernel_rfl) (by kernel_rfl) @h
def s219_p9 (K : Value → World → Prop) (B1 : List Value → World → Prop) (t0 t3 t4 t5 t23 : Value) (w : World) : Prop :=
  boI .add t23 (.int .i64 1) (fun t39 w =>
  B1 [t0, t3, t4, t5, t39] w) w
def s219_p9_den (K : Value → World → Prop) (M1 : (Nat → Value) → World → Prop) : (Nat → Value) → World → Prop := denL Tryz.prog [(cd (Tryz.f219.body.getD .skip) [1, 1, 0, 1, 0, 0, 1, 1, 1])] M1 (fun i => (bif Nat.beq i 0 then (s219_p8_den K) else (fun _ _ => False))) (s219_R K)
theorem s219_p9_ok (K : Value → World → Prop) (B1 : List Value → World → Prop) (s : Nat → Value) (w : World) (h : s219_p9 K B1 (s 0) (s 3) (s 4) (s 5) (s 23) w) : Tr (s219_p9_den K (fun s w => B1 [s 0, s 3, s 4, s 5, s 23] w) s w) :=
  tr_simple (P := Tryz.prog) (codes := [(cd (Tryz.f219.body.getD .skip) [1, 1, 0, 1, 0, 0, 1, 1, 1])]) (N := (fun s w => B1 [s 0, s 3, s 4, s 5, s 23] w)) (N' := (fun s w => B1 [s 0, s 3, s 4, s 5, s 23] w)) (X := (fun i => (bif Nat.beq i 0 then (fun s w => s219_p8 K (s 0) (s 3) (s 4) (s 5) w) else (fun _ _ => False)))) (X' := (fun i => (bif Nat.beq i 0 then (s219_p8_den K) else (fun _ _ => False)))) (R := s219_R K) (s := s) (w := w) (p := s219_p9 K B1 (s 0) (s 3) (s 4) (s 5) (s 23) w) (q := s219_p9_den K (fun s w => B1 [s 0, s 3, s 4, s 5, s 23] w) s w) tr_id (fun i => (tr_bif (fun s w h => s219_p8_ok K s w @h) tr_id)) (by kernel_rfl) (by kernel_rfl) @h
def s219_p10_d (K : Value → World → Prop) (B1 : List Value → World → Prop) (t0 t3 t4 t5 t6 t23 : Value) (w0 w : World) : Prop :=
  nck t0 (fun t28 _ =>
  fd 15 t28 (fun t29 _ =>
  ld1 t29 (fun t30 _ =>
  fd 2 t3 (fun t31 _ =>
  ld1 t31 (fun t32 _ =>
  fd 3 t3 (fun t33 _ =>
  ld1 t33 (fun t34 _ =>
  fd 14 t5 (fun t37 _ =>
  ixa 3 1 t37 t6 (fun t38 _ =>
  cl Tryz.prog 199 #[t30, t32, t34, t6] (fun t36 w =>
  st1 t38 t36 (fun w =>
  s219_p9 K B1 t0 t3 t4 t5 t23 w) w) w) w0) w0) w0) w0) w0) w0) w0) w0) w0
def s219_p10 (K : Value → World → Prop) (B1 : List Value → World → Prop) (t0 t3 t4 t5 t6 t23 : Value) (w : World) : Prop := s219_p10_d K B1 t0 t3 t4 t5 t6 t23 (drw w) (drw w)
def s219_p10_den (K : Value → World → Prop) (M1 : (Nat → Value) → World → Prop) : (Nat → Value) → World → Prop := denL Tryz.prog [(cd (Tryz.f219.body.getD .skip) [1, 1, 0, 1, 0, 0, 1, 1, 0, 0, 1])] (s219_p9_den K M1) (fun i => (bif Nat.beq i 1 then (s219_p9_den K M1) else (bif Nat.beq i 0 then (s219_p8_den K) else (fun _ _ => False)))) (s219_R K)
theorem s219_p10_ok (K : Value → World → Prop) (B1 : List Value → World → Prop) (s : Nat → Value) (w : World) (h : s219_p10 K B1 (s 0) (s 3) (s 4) (s 5) (s 6) (s 23) w) : Tr (s219_p10_den K (fun s w => B1 [s 0, s 3, s 4, s 5, s 23] w) s w) :=
  tr_draw (P := Tryz.prog) (ops := (ro (cd (Tryz.f219.body.getD .skip) [1, 1, 0, 1, 0, 0, 1, 1, 0, 0, 1]))) (ms := [0, 0, 2, 6, 14, 0, 32, 0, 128, 0, 1022, 0, 4095, 8191]) (cs := [0, 1, 2, 3, 4, 5, 6, 7, 8, 9, 11, 12]) (N := (fun s w => s219_p9 K B1 (s 0) (s 3) (s 4) (s 5) (s 23) w)) (N' := (s219_p9_den K (fun s w => B1 [s 0, s 3, s 4, s 5, s 23] w))) (s := s) (w := w) (p := s219_p10 K B1 (s 0) (s 3) (s 4) (s 5) (s 6) (s 23) w) (q := s219_p10_den K (fun s w => B1 [s 0, s 3, s 4, s 5, s 23] w) s w) (by kernel_rfl) (by kernel_rfl) (fun s w h => s219_p9_ok K B1 s w @h) (by kernel_rfl) (by kernel_rfl) @h
def s219_p11 (K : Value → World → Prop) (B1 : List Value → World → Prop) (t0 t3 t4 t5 t23 : Value) (w : World) : Prop :=
  s219_p10 K B1 t0 t3 t4 t5 t23 t23 w
def s219_p11_den (K : Value → World → Prop) (M1 : (Nat → Value) → World → Prop) : (Nat → Value) → World → Prop := denL Tryz.prog [(cd (Tryz.f219.body.getD .skip) [1, 1, 0, 1, 0, 0, 1, 1, 0, 0, 0])] (s219_p10_den K M1) (fun i => (bif Nat.beq i 1 then (s219_p9_den K M1) else (bif Nat.beq i 0 then (s219_p8_den K) else (fun _ _ => False)))) (s219_R K)
theorem s219_p11_ok (K : Value → World → Prop) (B1 : List Value → World → Prop) (s : Nat → Value) (w : World) (h : s219_p11 K B1 (s 0) (s 3) (s 4) (s 5) (s 23) w) : Tr (s219_p11_den K (fun s w => B1 [s 0, s 3, s 4, s 5, s 23] w) s w) :=
  tr_simple (P := Tryz.prog) (codes := [(cd (Tryz.f219.body.getD .skip) [1, 1, 0, 1, 0, 0, 1, 1, 0, 0, 0])]) (N := (fun s w => s219_p10 K B1 (s 0) (s 3) (s 4) (s 5) (s 6) (s 23) w)) (N' := (s219_p10_den K (fun s w => B1 [s 0, s 3, s 4, s 5, s 23] w))) (X := (fun i => (bif Nat.beq i 1 then (fun s w => s219_p9 K B1 (s 0) (s 3) (s 4) (s 5) (s 23) w) else (bif Nat.beq i 0 then (fun s w => s219_p8 K (s 0) (s 3) (s 4) (s 5) w) else (fun _ _ => False))))) (X' := (fun i => (bif Nat.beq i 1 then (s219_p9_den K (fun s w => B1 [s 0, s 3, s 4, s 5, s 23] w)) else (bif Nat.beq i 0 then (s219_p8_den K) else (fun _ _ => False))))) (R := s219_R K) (s := s) (w := w) (p := s219_p11 K B1 (s 0) (s 3) (s 4) (s 5) (s 23) w) (q := s219_p11_den K (fun s w => B1 [s 0, s 3, s 4, s 5, s 23] w) s w) (fun s w h => s219_p10_ok K B1 s w @h) (fun i => (tr_bif (fun s w h => s219_p9_ok K B1 s w @h) (tr_bif (fun s w h => s219_p8_ok K s w @h) tr_id))) (by kernel_rfl) (by kernel_rfl) @h
def s219_p12 (K : Value → World → Prop) (B1 : List Value → World → Prop) (t0 t3 t4 t5 t23 : Value) (w : World) : Prop :=
  boI .lss t23 (.int .i64 3) (fun t24 w =>
  ifb t24
  (s219_p11 K B1 t0 t3 t4 t5 t23 w)
  (s219_p8 K t0 t3 t4 t5 w)) w
def s219_p12_den (K : Value → World → Prop) (M1 : (Nat → Value) → World → Prop) : (Nat → Value) → World → Prop := denL Tryz.prog [(cd (Tryz.f219.body.getD .skip) [1, 1, 0, 1, 0, 0, 0]), (cd (Tryz.f219.body.getD .skip) [1, 1, 0, 1, 0, 0, 1, 0])] (s219_p11_den K M1) (fun i => (bif Nat.beq i 0 then (s219_p8_den K) else (fun _ _ => False))) (s219_R K)
theorem s219_p12_ok (K : Value → World → Prop) (B1 : List Value → World → Prop) (s : Nat → Value) (w : World) (h : s219_p12 K B1 (s 0) (s 3) (s 4) (s 5) (s 23) w) : Tr (s219_p12_den K (fun s w => B1 [s 0, s 3, s 4, s 5, s 23] w) s w) :=
  tr_simple (P := Tryz.prog) (codes := [(cd (Tryz.f219.body.getD .skip) [1, 1, 0, 1, 0, 0, 0]), (cd (Tryz.f219.body.getD .skip) [1, 1, 0, 1, 0, 0, 1, 0])]) (N := (fun s w => s219_p11 K B1 (s 0) (s 3) (s 4) (s 5) (s 23) w)) (N' := (s219_p11_den K (fun s w => B1 [s 0, s 3, s 4, s 5, s 23] w))) (X := (fun i => (bif Nat.beq i 0 then (fun s w => s219_p8 K (s 0) (s 3) (s 4) (s 5) w) else (fun _ _ => False)))) (X' := (fun i => (bif Nat.beq i 0 then (s219_p8_den K) else (fun _ _ => False)))) (R := s219_R K) (s := s) (w := w) (p := s219_p12 K B1 (s 0) (s 3) (s 4) (s 5) (s 23) w) (q := s219_p12_den K (fun s w => B1 [s 0, s 3, s 4, s 5, s 23] w) s w) (fun s w h => s219_p11_ok K B1 s w @h) (fun i => (tr_bif (fun s w h => s219_p8_ok K s w @h) tr_id)) (by kernel_rfl) (by kernel_rfl) @h
def s219_p13_F (K : Value → World → Prop) (B1 : List Value → World → Prop) (l : List Value) (w : World) : Prop :=
  match l with
  | [t0, t3, t4, t5, t23] => s219_p12 K B1 t0 t3 t4 t5 t23 w
  | _ => False
theorem s219_p13_Fe {K : Value → World → Prop} {B1 : List Value → World → Prop} {t0 t3 t4 t5 t23 : Value} {w : World} : s219_p13_F K B1 [t0, t3, t4, t5, t23] w = s219_p12 K B1 t0 t3 t4 t5 t23 w := by kernel_rfl
def s219_p13 (K : Value → World → Prop) (t0 t3 t4 t5 t23 : Value) (w : World) : Prop :=
  LoopL (s219_p13_F K) [t0, t3, t4, t5, t23] w
def s219_p13_den (K : Value → World → Prop) : (Nat → Value) → World → Prop := fun s w => LoopP (fun M1 s w => s219_p12_den K M1 s w) s w
theorem s219_p13_ok (K : Value → World → Prop) (s : Nat → Value) (w : World) (h : s219_p13 K (s 0) (s 3) (s 4) (s 5) (s 23) w) : Tr (s219_p13_den K s w) :=
  tr_loop (G := fun N' s w => s219_p12_den K N' s w) (F := s219_p13_F K) (sel := fun s => [s 0, s 3, s 4, s 5, s 23]) (s := s) (w := w) (p := s219_p13 K (s 0) (s 3) (s 4) (s 5) (s 23) w) (q := s219_p13_den K s w) (fun B s w h => s219_p12_ok K B s w @h) (by kernel_rfl) (by kernel_rfl) @h
def s219_p14 (K : Value → World → Prop) (t0 t3 t4 t5 : Value) (w : World) : Prop :=
  s219_p13 K t0 t3 t4 t5 (.int .i64 0) w
def s219_p14_den (K : Value → World → Prop) : (Nat → Value) → World → Prop := denL Tryz.prog [(cd (Tryz.f219.body.getD .skip) [1, 1, 0, 0])] (s219_p13_den K) (fun i => (fun _ _ => False)) (s219_R K)
theorem s219_p14_ok (K : Value → World → Prop) (s : Nat → Value) (w : World) (h : s219_p14 K (s 0) (s 3) (s 4) (s 5) w) : Tr (s219_p14_den K s w) :=
  tr_simple (P := Tryz.prog) (codes := [(cd (Tryz.f219.body.getD .skip) [1, 1, 0, 0])]) (N := (fun s w => s219_p13 K (s 0) (s 3) (s 4) (s 5) (s 23) w)) (N' := (s219_p13_den K)) (X := (fun i => (fun _ _ => False))) (X' := (fun i => (fun _ _ => False))) (R := s219_R K) (s := s) (w := w) (p := s219_p14 K (s 0) (s 3) (s 4) (s 5) w) (q := s219_p14_den K s w) (fun s w h => s219_p13_ok K s w @h) (fun i => tr_id) (by kernel_rfl) (by kernel_rfl) @h
def s219_p15_d (K : Value → World → Prop) (t0 t3 t4 : Value) (w0 w : World) : Prop :=
  fd 0 t3 (fun t11 _ =>
  ld1 t11 (fun t12 _ =>
  nck t0 (fun t14 _ =>
  fd 15 t14 (fun t15 _ =>
  ld1 t15 (fun t16 _ =>
  fd 2 t3 (fun t17 _ =>
  ld1 t17 (fun t18 _ =>
  fd 3 t3 (fun t19 _ =>
  ld1 t19 (fun t20 _ =>
  (cl Tryz.prog 198 #[t16, t18, t20] (fun t21 w =>
  Below w0.heap.size w0 w ∧
  (bdq [(.int .i64 0), (.int .u8 0), (.int .i64 0), (.int .i64 0), (.int .i64 0), (.int .i64 0), (.int .i64 0), (.slice none 0 0), (.int .i64 0), (.int .i64 0), (.int .i64 0), (.slice none 0 0), (.int .i64 0), (.int .i64 0), (.int .i64 0), (.int .i64 0), (.int .i64 0), (.int .i64 0), (.slice none 0 0), (.int .i64 0), (.int .i64 0), (.int .i64 0), (.int .i64 0), (.int .i64 0), (.int .i64 0), (.int .i64 0), (.int .i64 0), (.int .i64 0), (.int .i64 0), (.int .i64 0), (.int .i64 0), (.int .i64 0), (.int .i64 0), (.int .i64 0)] [(some (1, 1), t12), (some (13, 1), t21)] (fun t22 w =>
  nw 94 #[(.int .i64 0), (.int .u8 0), (.int .i64 0), (.int .i64 0), (.int .i64 0), (.int .i64 0), (.int .i64 0), (.slice none 0 0), (.int .i64 0), (.int .i64 0), (.int .i64 0), (.slice none 0 0), (.int .i64 0), (.int .i64 0), (.int .i64 0), (.int .i64 0), (.int .i64 0), (.int .i64 0), (.slice none 0 0), (.int .i64 0), (.int .i64 0), (.int .i64 0), (.int .i64 0), (.int .i64 0), (.int .i64 0), (.int .i64 0), (.int .i64 0), (.int .i64 0), (.int .i64 0), (.int .i64 0), (.int .i64 0), (.int .i64 0), (.int .i64 0), (.int .i64 0)] (fun t5 w =>
  Below w0.heap.size w0 w ∧
  stn 34 t5 t22 (fun w =>
  s219_p14 K t0 t3 t4 t5 w) w) w) w) ∧
  (nw 94 #[(.int .i64 0), (.int .u8 0), (.int .i64 0), (.int .i64 0), (.int .i64 0), (.int .i64 0), (.int .i64 0), (.slice none 0 0), (.int .i64 0), (.int .i64 0), (.int .i64 0), (.slice none 0 0), (.int .i64 0), (.int .i64 0), (.int .i64 0), (.int .i64 0), (.int .i64 0), (.int .i64 0), (.slice none 0 0), (.int .i64 0), (.int .i64 0), (.int .i64 0), (.int .i64 0), (.int .i64 0), (.int .i64 0), (.int .i64 0), (.int .i64 0), (.int .i64 0), (.int .i64 0), (.int .i64 0), (.int .i64 0), (.int .i64 0), (.int .i64 0), (.int .i64 0)] (fun t5_2 w =>
  Below w0.heap.size w0 w ∧
  bdq [(.int .i64 0), (.int .u8 0), (.int .i64 0), (.int .i64 0), (.int .i64 0), (.int .i64 0), (.int .i64 0), (.slice none 0 0), (.int .i64 0), (.int .i64 0), (.int .i64 0), (.slice none 0 0), (.int .i64 0), (.int .i64 0), (.int .i64 0), (.int .i64 0), (.int .i64 0), (.int .i64 0), (.slice none 0 0), (.int .i64 0), (.int .i64 0), (.int .i64 0), (.int .i64 0), (.int .i64 0), (.int .i64 0), (.int .i64 0), (.int .i64 0), (.int .i64 0), (.int .i64 0), (.int .i64 0), (.int .i64 0), (.int .i64 0), (.int .i64 0), (.int .i64 0)] [(some (1, 1), t12), (some (13, 1), t21)] (fun t22_2 w =>
  stn 34 t5_2 t22_2 (fun w =>
  s219_p14 K t0 t3 t4 t5_2 w) w) w) w)) w) ∧
  (nw 94 #[(.int .i64 0), (.int .u8 0), (.int .i64 0), (.int .i64 0), (.int .i64 0), (.int .i64 0), (.int .i64 0), (.slice none 0 0), (.int .i64 0), (.int .i64 0), (.int .i64 0), (.slice none 0 0), (.int .i64 0), (.int .i64 0), (.int .i64 0), (.int .i64 0), (.int .i64 0), (.int .i64 0), (.slice none 0 0), (.int .i64 0), (.int .i64 0), (.int .i64 0), (.int .i64 0), (.int .i64 0), (.int .i64 0), (.int .i64 0), (.int .i64 0), (.int .i64 0), (.int .i64 0), (.int .i64 0), (.int .i64 0), (.int .i64 0), (.int .i64 0), (.int .i64 0)] (fun t5_3 w =>
  Below w0.heap.size w0 w ∧
  cl Tryz.prog 198 #[t16, t18, t20] (fun t21_2 w =>
  Below w0.heap.size w0 w ∧
  bdq [(.int .i64 0), (.int .u8 0), (.int .i64 0), (.int .i64 0), (.int .i64 0), (.int .i64 0), (.int .i64 0), (.slice none 0 0), (.int .i64 0), (.int .i64 0), (.int .i64 0), (.slice none 0 0), (.int .i64 0), (.int .i64 0), (.int .i64 0), (.int .i64 0), (.int .i64 0), (.int .i64 0), (.slice none 0 0), (.int .i64 0), (.int .i64 0), (.int .i64 0), (.int .i64 0), (.int .i64 0), (.int .i64 0), (.int .i64 0), (.int .i64 0), (.int .i64 0), (.int .i64 0), (.int .i64 0), (.int .i64 0), (.int .i64 0), (.int .i64 0), (.int .i64 0)] [(some (1, 1), t12), (some (13, 1), t21_2)] (fun t22_3 w =>
  stn 34 t5_3 t22_3 (fun w =>
  s219_p14 K t0 t3 t4 t5_3 w) w) w) w) w)) w0) w0) w0) w0) w0) w0) w0) w0) w0
def s219_p15 (K : Value → World → Prop) (t0 t3 t4 : Value) (w : World) : Prop := s219_p15_d K t0 t3 t4 (drw w) (drw w)
def s219_p15_den (K : Value → World → Prop) : (Nat → Value) → World → Prop := denL Tryz.prog [(cd (Tryz.f219.body.getD .skip) [1, 0])] (s219_p14_den K) (fun i => (fun _ _ => False)) (s219_R K)
theorem s219_p15_ok (K : Value → World → Prop) (s : Nat → Value) (w : World) (h : s219_p15 K (s 0) (s 3) (s 4) w) : Tr (s219_p15_den K s w) :=
  tr_draw (P := Tryz.prog) (ops := (ro (cd (Tryz.f219.body.getD .skip) [1, 0]))) (ms := [0, 1, 0, 4, 12, 28, 0, 64, 0, 256, 1020, 2047, 0, 8191]) (cs := [0, 1, 2, 3, 4, 5, 6, 7, 8, 9]) (N := (fun s w => s219_p14 K (s 0) (s 3) (s 4) (s 5) w)) (N' := (s219_p14_den K)) (s := s) (w := w) (p := s219_p15 K (s 0) (s 3) (s 4) w) (q := s219_p15_den K s w) (by kernel_rfl) (by kernel_rfl) (fun s w h => s219_p14_ok K s w @h) (by kernel_rfl) (by kernel_rfl) @h
def s219_p16 (K : Value → World → Prop) (t0 t1 : Value) (w : World) : Prop :=
  nw 52 (t1).cells (fun t3 w =>
  nw 94 #[(.int .i64 0), (.int .u8 0), (.int .i64 0), (.int .i64 0), (.int .i64 0), (.int .i64 0), (.int .i64 0), (.slice none 0 0), (.int .i64 0), (.int .i64 0), (.int .i64 0), (.slice none 0 0), (.int .i64 0), (.int .i64 0), (.int .i64 0), (.int .i64 0), (.int .i64 0), (.int .i64 0), (.slice none 0 0), (.int .i64 0), (.int .i64 0), (.int .i64 0), (.int .i64 0), (.int .i64 0), (.int .i64 0), (.int .i64 0), (.int .i64 0), (.int .i64 0), (.int .i64 0), (.int .i64 0), (.int .i64 0), (.int .i64 0), (.int .i64 0), (.int .i64 0)] (fun t4 w =>
  s219_p15 K t0 t3 t4 w) w) w
def s219_p16_den (K : Value → World → Prop) : (Nat → Value) → World → Prop := denL Tryz.prog [(cd (Tryz.f219.body.getD .skip) [0])] (s219_p15_den K) (fun i => (fun _ _ => False)) (s219_R K)
theorem s219_p16_ok (K : Value → World → Prop) (s : Nat → Value) (w : World) (h : s219_p16 K (s 0) (s 1) w) : Tr (s219_p16_den K s w) :=
  tr_simple (P := Tryz.prog) (codes := [(cd (Tryz.f219.body.getD .skip) [0])]) (N := (fun s w => s219_p15 K (s 0) (s 3) (s 4) w)) (N' := (s219_p15_den K)) (X := (fun i => (fun _ _ => False))) (X' := (fun i => (fun _ _ => False))) (R := s219_R K) (s := s) (w := w) (p := s219_p16 K (s 0) (s 1) w) (q := s219_p16_den K s w) (fun s w h => s219_p15_ok K s w @h) (fun i => tr_id) (by kernel_rfl) (by kernel_rfl) @h
/-- the call, from the text -/
theorem c219 (t0 t1 : Value) {K : Value → World → Prop} {w : World} (h : s219_p16 K t0 t1 w) : cl Tryz.prog 219 #[t0, t1] K w :=
  calls_of_tr (c := (Tryz.f219.body.getD .skip)) (fn := Tryz.f219) (q := s219_p16_den K (st0 #[t0, t1]) w) Tryz.func219 (by kernel_rfl) (by kernel_rfl) (Nat.le_of_ble_eq_true (by kernel_rfl)) (by kernel_rfl) (by kernel_rfl) (s219_p16_ok K (st0 #[t0, t1]) w @h)

/-! ### function 220 : (*e2e.engine.Engine).find -/
def s220_R (K : Value → World → Prop) (s : Nat → Value) (w : World) : Prop := retv Tryz.prog s Tryz.f220.results.toList (fun vs => K (pack vs) w) w
def s220_p1 (K : Value → World → Prop) (t4 : Value) (w : World) : Prop :=
  cl Tryz.prog 129 #[(.int .i64 22)] (fun t116 w =>
  stn 34 t4 t116 (fun w =>
  ldn 34 t4 (fun r0 _ =>
  K r0 w) w) w) w
def s220_p1_den (K : Value → World → Prop) : (Nat → Value) → World → Prop := denL Tryz.prog [(cd (Tryz.f220.body.getD .skip) [1, 1, 1, 1, 1, 1, 1, 0]), (cd (Tryz.f220.body.getD .skip) [1, 1, 1, 1, 1, 1, 1, 1])] (fun _ _ => False) (fun i => (fun _ _ => False)) (s220_R K)
theorem s220_p1_ok (K : Value → World → Prop) (s : Nat → Value) (w : World) (h : s220_p1 K (s 4) w) : Tr (s220_p1_den K s w) :=
  tr_simple (P := Tryz.prog) (codes := [(cd (Tryz.f220.body.getD .skip) [1, 1, 1, 1, 1, 1, 1, 0]), (cd (Tryz.f220.body.getD .skip) [1, 1, 1, 1, 1, 1, 1, 1])]) (N := (fun _ _ => False)) (N' := (fun _ _ => False)) (X := (fun i => (fun _ _ => False))) (X' := (fun i => (fun _ _ => False))) (R := s220_R K) (s := s) (w := w) (p := s220_p1 K (s 4) w) (q := s220_p1_den K s w) tr_id (fun i => tr_id) (by kernel_rfl) (by kernel_rfl) @h
def s220_p2 (K : Value → World → Prop) (B1 : List Value → World → Prop) (t0 t3 t4 t5 t7 t8 t9 : Value) (w : World) : Prop :=
  boI .add t9 (.int .i64 1) (fun t67 w =>
  B1 [t0, t3, t4, t5, t7, t8, t67] w) w
def s220_p2_den (K : Value → World → Prop) (M1 : (Nat → Value) → World → Prop) : (Nat → Value) → World → Prop := denL Tryz.prog [(cd (Tryz.f220.body.getD .skip) [1, 1, 1, 1, 1, 1, 0, 1, 0, 0, 1, 1])] M1 (fun i => (bif Nat.beq i 0 then (s220_p1_den K) else (fun _ _ => False))) (s220_R K)
theorem s220_p2_ok (K : Value → World → Prop) (B1 : List Value → World → Prop) (s : Nat → Value) (w : World) (h : s220_p2 K B1 (s 0) (s 3) (s 4) (s 5) (s 7) (s 8) (s 9) w) : Tr (s220_p2_den K (fun s w => B1 [s 0, s 3, s 4, s 5, s 7, s 8, s 9] w) s w) :=
  tr_simple (P := Tryz.prog) (codes := [(cd (Tryz.f220.body.getD .skip) [1, 1, 1, 1, 1, 1, 0, 1, 0, 0, 1, 1])]) (N := (fun s w => B1 [s 0, s 3, s 4, s 5, s 7, s 8, s 9] w)) (N' := (fun s w => B1 [s 0, s 3, s 4, s 5, s 7, s 8, s 9] w)) (X := (fun i => (bif Nat.beq i 0 then (fun s w => s220_p1 K (s 4) w) else (fun _ _ => False)))) (X' := (fun i => (bif Nat.beq i 0 then (s220_p1_den K) else (fun _ _ => False)))) (R := s220_R K) (s := s) (w := w) (p := s220_p2 K B1 (s 0) (s 3) (s 4) (s 5) (s 7) (s 8) (s 9) w) (q := s220_p2_den K (fun s w => B1 [s 0, s 3, s 4, s 5, s 7, s 8, s 9] w) s w) tr_id (fun i => (tr_bif (fun s w h => s220_p1_ok K s w @h) tr_id)) (by kernel_rfl) (by kernel_rfl) @h
def s220_p3 (K : Value → World → Prop) (B1 : List Value → World → Prop) (t0 t3 t4 t5 t7 t8 t9 t10 t111 : Value) (w : World) : Prop :=
  ifb t111
  (fd 0 t3 (fun t112 w =>
  ld1 t112 (fun t113 w =>
  bdq [(.int .i64 0), (.int .u8 0), (.int .i64 0), (.int .i64 0), (.int .i64 0), (.int .i64 0), (.int .i64 0), (.slice none 0 0), (.int .i64 0), (.int .i64 0), (.int .i64 0), (.slice none 0 0), (.int .i64 0), (.int .i64 0), (.int .i64 0), (.int .i64 0), (.int .i64 0), (.int .i64 0), (.slice none 0 0), (.int .i64 0), (.int .i64 0), (.int .i64 0), (.int .i64 0), (.int .i64 0), (.int .i64 0), (.int .i64 0), (.int .i64 0), (.int .i64 0), (.int .i64 0), (.int .i64 0), (.int .i64 0), (.int .i64 0), (.int .i64 0), (.int .i64 0)] [(some (1, 1), t113), (some (21, 1), t10)] (fun t115 w =>
  stn 34 t4 t115 (fun w =>
  ldn 34 t4 (fun r0 _ =>
  K r0 w) w) w) w) w) w)
  (s220_p2 K B1 t0 t3 t4 t5 t7 t8 t9 w)
def s220_p3_den (K : Value → World → Prop) (M1 : (Nat → Value) → World → Prop) : (Nat → Value) → World → Prop := denL Tryz.prog [(cd (Tryz.f220.body.getD .skip) [1, 1, 1, 1, 1, 1, 0, 1, 0, 0, 1, 0, 0, 1, 1, 1, 1])] (s220_p2_den K M1) (fun i => (bif Nat.beq i 1 then (s220_p2_den K M1) else (bif Nat.beq i 0 then (s220_p1_den K) else (fun _ _ => False)))) (s220_R K)
theorem s220_p3_ok (K : Value → World → Prop) (B1 : List Value → World → Prop) (s : Nat → Value) (w : World) (h : s220_p3 K B1 (s 0) (s 3) (s 4) (s 5) (s 7) (s 8) (s 9) (s 10) (s 111) w) : Tr (s220_p3_den K (fun s w => B1 [s 0, s 3, s 4, s 5, s 7, s 8, s 9] w) s w) :=
  tr_simple (P := Tryz.prog) (codes := [(cd (Tryz.f220.body.getD .skip) [1, 1, 1, 1, 1, 1, 0, 1, 0, 0, 1, 0, 0, 1, 1, 1, 1])]) (N := (fun s w => s220_p2 K B1 (s 0) (s 3) (s 4) (s 5) (s 7) (s 8) (s 9) w)) (N' := (s220_p2_den K (fun s w => B1 [s 0, s 3, s 4, s 5, s 7, s 8, s 9] w))) (X := (fun i => (bif Nat.beq i 1 then (fun s w => s220_p2 K B1 (s 0) (s 3) (s 4) (s 5) (s 7) (s 8) (s 9) w) else (bif Nat.beq i 0 then (fun s w => s220_p1 K (s 4) w) else (fun _ _ => False))))) (X' := (fun i => (bif Nat.beq i 1 then (s220_p2_den K (fun s w => B1 [s 0, s 3, s 4, s 5, s 7, s 8, s 9] w)) else (bif Nat.beq i 0 then (s220_p1_den K) else (fun _ _ => False))))) (R := s220_R K) (s := s) (w := w) (p := s220_p3 K B1 (s 0) (s 3) (s 4) (s 5) (s 7) (s 8) (s 9) (s 10) (s 111) w) (q := s220_p3_den K (fun s w => B1 [s 0, s 3, s 4, s 5, s 7, s 8, s 9] w) s w) (fun s w h => s220_p2_ok K B1 s w @h) (fun i => (tr_bif (fun s w h => s220_p2_ok K B1 s w @h) (tr_bif (fun s w h => s220_p1_ok K s w @h) tr_id))) (by kernel_rfl) (by kernel_rfl) @h
def s220_p4_d (K : Value → World → Prop) (B1 : List Value → World → Prop) (t0 t3 t4 t5 t7 t8 t9 t10 : Value) (w0 w : World) : Prop :=
  nck t0 (fun t94 _ =>
  fd 15 t94 (fun t95 _ =>
  ld1 t95 (fun t96 _ =>
  fd 2 t3 (fun t97 _ =>
  ld1 t97 (fun t98 _ =>
  fd 4 t3 (fun t100 _ =>
  ld1 t100 (fun t101 _ =>
  fd 5 t3 (fun t103 _ =>
  ld1 t103 (fun t104 _ =>
  fd 4 t3 (fun t106 _ =>
  ld1 t106 (fun t107 _ =>
  fd 2 t5 (fun t108 _ =>
  ixa 3 1 t108 t107 (fun t109 _ =>
  ld1 t109 (fun t110 _ =>
  cl Tryz.prog 199 #[t96, t98, t10, t101] (fun t102 w =>
  Below w0.heap.size w0 w ∧
  boI .add t102 t104 (fun t105 w =>
  Below w0.heap.size w0 w ∧
  boI .leq t105 t110 (fun t111 w =>
  s220_p3 K B1 t0 t3 t4 t5 t7 t8 t9 t10 t111 w) w) w) w) w0) w0) w0) w0) w0) w0) w0) w0) w0) w0) w0) w0) w0) w0
def s220_p4 (K : Value → World → Prop) (B1 : List Value → World → Prop) (t0 t3 t4 t5 t7 t8 t9 t10 : Value) (w : World) : Prop := s220_p4_d K B1 t0 t3 t4 t5 t7 t8 t9 t10 (drw w) (drw w)
def s220_p4_den (K : Value → World → Prop) (M1 : (Nat → Value) → World → Prop) : (Nat → Value) → World → Prop := denL Tryz.prog [(cd (Tryz.f220.body.getD .skip) [1, 1, 1, 1, 1, 1, 0, 1, 0, 0, 1, 0, 0, 1, 1, 1, 0])] (s220_p3_den K M1) (fun i => (bif Nat.beq i 1 then (s220_p2_den K M1) else (bif Nat.beq i 0 then (s220_p1_den K) else (fun _ _ => False)))) (s220_R K)
theorem s220_p4_ok (K : Value → World → Prop) (B1 : List Value → World → Prop) (s : Nat → Value) (w : World) (h : s220_p4 K B1 (s 0) (s 3) (s 4) (s 5) (s 7) (s 8) (s 9) (s 10) w) : Tr (s220_p4_den K (fun s w => B1 [s 0, s 3, s 4, s 5, s 7, s 8, s 9] w) s w) :=
  tr_draw (P := Tryz.prog) (ops := (ro (cd (Tryz.f220.body.getD .skip) [1, 1, 1, 1, 1, 1, 0, 1, 0, 0, 1, 0, 0, 1, 1, 1, 0]))) (ms := [0, 1, 3, 7, 0, 16, 0, 0, 128, 511, 0, 1024, 4095, 0, 8192, 0, 57344, 122880, 262143]) (cs := [0, 1, 2, 3, 4, 5, 6, 7, 8, 10, 11, 13, 14, 15, 16, 17]) (N := (fun s w => s220_p3 K B1 (s 0) (s 3) (s 4) (s 5) (s 7) (s 8) (s 9) (s 10) (s 111) w)) (N' := (s220_p3_den K (fun s w => B1 [s 0, s 3, s 4, s 5, s 7, s 8, s 9] w))) (s := s) (w := w) (p := s220_p4 K B1 (s 0) (s 3) (s 4) (s 5) (s 7) (s 8) (s 9) (s 10) w) (q := s220_p4_den K (fun s w => B1 [s 0, s 3, s 4, s 5, s 7, s 8, s 9] w) s w) (by kernel_rfl) (by kernel_rfl) (fun s w h => s220_p3_ok K B1 s w @h) (by kernel_rfl) (by kernel_rfl) @h
def s220_p5 (K : Value → World → Prop) (B1 : List Value → World → Prop) (t0 t3 t4 t5 t7 t8 t9 : Value) (w : World) : Prop :=
  fd 1 t5 (fun t85 w =>
  ld1 t85 (fun t86 w =>
  boI .lss t8 t86 (fun t87 w =>
  ifb t87
  (s220_p2 K B1 t0 t3 t4 t5 t7 t8 t9 w)
  (fd 1 t5 (fun t89 w =>
  ld1 t89 (fun t90 w =>
  boI .sub t9 t90 (fun t91 w =>
  boI .add t91 (.int .i64 1) (fun t92 w =>
  s220_p4 K B1 t0 t3 t4 t5 t7 t8 t9 t92 w) w) w) w) w)) w) w) w
def s220_p5_den (K : Value → World → Prop) (M1 : (Nat → Value) → World → Prop) : (Nat → Value) → World → Prop := denL Tryz.prog [(cd (Tryz.f220.body.getD .skip) [1, 1, 1, 1, 1, 1, 0, 1, 0, 0, 1, 0, 0, 1, 0, 0]), (cd (Tryz.f220.body.getD .skip) [1, 1, 1, 1, 1, 1, 0, 1, 0, 0, 1, 0, 0, 1, 0, 1]), (cd (Tryz.f220.body.getD .skip) [1, 1, 1, 1, 1, 1, 0, 1, 0, 0, 1, 0, 0, 1, 1, 0])] (s220_p4_den K M1) (fun i => (bif Nat.beq i 1 then (s220_p2_den K M1) else (bif Nat.beq i 0 then (s220_p1_den K) else (fun _ _ => False)))) (s220_R K)
theorem s220_p5_ok (K : Value → World → Prop) (B1 : List Value → World → Prop) (s : Nat → Value) (w : World) (h : s220_p5 K B1 (s 0) (s 3) (s 4) (s 5) (s 7) (s 8) (s 9) w) : Tr (s220_p5_den K (fun s w => B1 [s 0, s 3, s 4, s 5, s 7, s 8, s 9] w) s w) :=
  tr_simple (P := Tryz.prog) (codes := [(cd (Tryz.f220.body.getD .skip) [1, 1, 1, 1, 1, 1, 0, 1, 0, 0, 1, 0, 0, 1, 0, 0]), (cd (Tryz.f220.body.getD .skip) [1, 1, 1, 1, 1, 1, 0, 1, 0, 0, 1, 0, 0, 1, 0, 1]), (cd (Tryz.f220.body.getD .skip) [1, 1, 1, 1, 1, 1, 0, 1, 0, 0, 1, 0, 0, 1, 1, 0])]) (N := (fun s w => s220_p4 K B1 (s 0) (s 3) (s 4) (s 5) (s 7) (s 8) (s 9) (s 10) w)) (N' := (s220_p4_den K (fun s w => B1 [s 0, s 3, s 4, s 5, s 7, s 8, s 9] w))) (X := (fun i => (bif Nat.beq i 1 then (fun s w => s220_p2 K B1 (s 0) (s 3) (s 4) (s 5) (s 7) (s 8) (s 9) w) else (bif Nat.beq i 0 then (fun s w => s220_p1 K (s 4) w) else (fun _ _ => False))))) (X' := (fun i => (bif Nat.beq i 1 then (s220_p2_den K (fun s w => B1 [s 0, s 3, s 4, s 5, s 7, s 8, s 9] w)) else (bif Nat.beq i 0 then (s220_p1_den K) else (fun _ _ => False))))) (R := s220_R K) (s := s) (w := w) (p := s220_p5 K B1 (s 0) (s 3) (s 4) (s 5) (s 7) (s 8) (s 9) w) (q := s220_p5_den K (fun s w => B1 [s 0, s 3, s 4, s 5, s 7, s 8, s 9] w) s w) (fun s w h => s220_p4_ok K B1 s w @h) (fun i => (tr_bif (fun s w h => s220_p2_ok K B1 s w @h) (tr_bif (fun s w h => s220_p1_ok K s w @h) tr_id))) (by kernel_rfl) (by kernel_rfl) @h
def s220_p6 (K : Value → World → Prop) (B1 : List Value → World → Prop) (t0 t3 t4 t5 t7 t8 t9 t81 : Value) (w : World) : Prop :=
  ifb t81
  (boI .add t8 (.int .i64 1) (fun t83 w =>
  s220_p5 K B1 t0 t3 t4 t5 t7 t83 t9 w) w)
  (s220_p5 K B1 t0 t3 t4 t5 t7 (.int .i64 0) t9 w)
def s220_p6_den (K : Value → World → Prop) (M1 : (Nat → Value) → World → Prop) : (Nat → Value) → World → Prop := denL Tryz.prog [(cd (Tryz.f220.body.getD .skip) [1, 1, 1, 1, 1, 1, 0, 1, 0, 0, 1, 0, 0, 0, 1])] (s220_p5_den K M1) (fun i => (bif Nat.beq i 1 then (s220_p2_den K M1) else (bif Nat.beq i 0 then (s220_p1_den K) else (fun _ _ => False)))) (s220_R K)
theorem s220_p6_ok (K : Value → World → Prop) (B1 : List Value → World → Prop) (s : Nat → Value) (w : World) (h : s220_p6 K B1 (s 0) (s 3) (s 4) (s 5) (s 7) (s 8) (s 9) (s 81) w) : Tr (s220_p6_den K (fun s w => B1 [s 0, s 3, s 4, s 5, s 7, s 8, s 9] w) s w) :=
  tr_simple (P := Tryz.prog) (codes := [(cd (Tryz.f220.body.getD .skip) [1, 1, 1, 1, 1, 1, 0, 1, 0, 0, 1, 0, 0, 0, 1])]) (N := (fun s w => s220_p5 K B1 (s 0) (s 3) (s 4) (s 5) (s 7) (s 8) (s 9) w)) (N' := (s220_p5_den K (fun s w => B1 [s 0, s 3, s 4, s 5, s 7, s 8, s 9] w))) (X := (fun i => (bif Nat.beq i 1 then (fun s w => s220_p2 K B1 (s 0) (s 3) (s 4) (s 5) (s 7) (s 8) (s 9) w) else (bif Nat.beq i 0 then (fun s w => s220_p1 K (s 4) w) else (fun _ _ => False))))) (X' := (fun i => (bif Nat.beq i 1 then (s220_p2_den K (fun s w => B1 [s 0, s 3, s 4, s 5, s 7, s 8, s 9] w)) else (bif Nat.beq i 0 then (s220_p1_den K) else (fun _ _ => False))))) (R := s220_R K) (s := s) (w := w) (p := s220_p6 K B1 (s 0) (s 3) (s 4) (s 5) (s 7) (s 8) (s 9) (s 81) w) (q := s220_p6_den K (fun s w => B1 [s 0, s 3, s 4, s 5, s 7, s 8, s 9] w) s w) (fun s w h => s220_p5_ok K B1 s w @h) (fun i => (tr_bif (fun s w h => s220_p2_ok K B1 s w @h) (tr_bif (fun s w h => s220_p1_ok K s w @h) tr_id))) (by kernel_rfl) (by kernel_rfl) @h
def s220_p7_d (K : Value → World → Prop) (B1 : List Value → World → Prop) (t0 t3 t4 t5 t7 t8 t9 : Value) (w0 w : World) : Prop :=
  nck t0 (fun t69 _ =>
  fd 15 t69 (fun t70 _ =>
  ld1 t70 (fun t71 _ =>
  fd 2 t3 (fun t72 _ =>
  ld1 t72 (fun t73 _ =>
  fd 5 t3 (fun t76 _ =>
  ld1 t76 (fun t77 _ =>
  fd 0 t5 (fun t79 _ =>
  ld1 t79 (fun t80 _ =>
  cl Tryz.prog 198 #[t71, t73, t9] (fun t75 w =>
  Below w0.heap.size w0 w ∧
  boI .add t75 t77 (fun t78 w =>
  Below w0.heap.size w0 w ∧
  boI .leq t78 t80 (fun t81 w =>
  s220_p6 K B1 t0 t3 t4 t5 t7 t8 t9 t81 w) w) w) w) w0) w0) w0) w0) w0) w0) w0) w0) w0
def s220_p7 (K : Value → World → Prop) (B1 : List Value → World → Prop) (t0 t3 t4 t5 t7 t8 t9 : Value) (w : World) : Prop := s220_p7_d K B1 t0 t3 t4 t5 t7 t8 t9 (drw w) (drw w)
def s220_p7_den (K : Value → World → Prop) (M1 : (Nat → Value) → World → Prop) : (Nat → Value) → World → Prop := denL Tryz.prog [(cd (Tryz.f220.body.getD .skip) [1, 1, 1, 1, 1, 1, 0, 1, 0, 0, 1, 0, 0, 0, 0])] (s220_p6_den K M1) (fun i => (bif Nat.beq i 1 then (s220_p2_den K M1) else (bif Nat.beq i 0 then (s220_p1_den K) else (fun _ _ => False)))) (s220_R K)
theorem s220_p7_ok (K : Value → World → Prop) (B1 : List Value → World → Prop) (s : Nat → Value) (w : World) (h : s220_p7 K B1 (s 0) (s 3) (s 4) (s 5) (s 7) (s 8) (s 9) w) : Tr (s220_p7_den K (fun s w => B1 [s 0, s 3, s 4, s 5, s 7, s 8, s 9] w) s w) :=
  tr_draw (P := Tryz.prog) (ops := (ro (cd (Tryz.f220.body.getD .skip) [1, 1, 1, 1, 1, 1, 0, 1, 0, 0, 1, 0, 0, 0, 0]))) (ms := [0, 1, 3, 7, 0, 16, 0, 127, 0, 256, 1023, 0, 2048, 8191]) (cs := [0, 1, 2, 3, 4, 5, 6, 8, 9, 11, 12]) (N := (fun s w => s220_p6 K B1 (s 0) (s 3) (s 4) (s 5) (s 7) (s 8) (s 9) (s 81) w)) (N' := (s220_p6_den K (fun s w => B1 [s 0, s 3, s 4, s 5, s 7, s 8, s 9] w))) (s := s) (w := w) (p := s220_p7 K B1 (s 0) (s 3) (s 4) (s 5) (s 7) (s 8) (s 9) w) (q := s220_p7_den K (fun s w => B1 [s 0, s 3, s 4, s 5, s 7, s 8, s 9] w) s w) (by kernel_rfl) (by kernel_rfl) (fun s w h => s220_p6_ok K B1 s w @h) (by kernel_rfl) (by kernel_rfl) @h
def s220_p8 (K : Value → World → Prop) (B1 : List Value → World → Prop) (t0 t3 t4 t5 t7 t8 t9 : Value) (w : World) : Prop :=
  fd 1 t5 (fun t61 w =>
  ld1 t61 (fun t62 w =>
  boI .sub t9 t62 (fun t63 w =>
  boI .lss t63 t7 (fun t65 w =>
  ifb t65
  (s220_p7 K B1 t0 t3 t4 t5 t7 t8 t9 w)
  (s220_p1 K t4 w)) w) w) w) w
def s220_p8_den (K : Value → World → Prop) (M1 : (Nat → Value) → World → Prop) : (Nat → Value) → World → Prop := denL Tryz.prog [(cd (Tryz.f220.body.getD .skip) [1, 1, 1, 1, 1, 1, 0, 1, 0, 0, 0, 0]), (cd (Tryz.f220.body.getD .skip) [1, 1, 1, 1, 1, 1, 0, 1, 0, 0, 0, 1])] (s220_p7_den K M1) (fun i => (bif Nat.beq i 0 then (s220_p1_den K) else (fun _ _ => False))) (s220_R K)
theorem s220_p8_ok (K : Value → World → Prop) (B1 : List Value → World → Prop) (s : Nat → Value) (w : World) (h : s220_p8 K B1 (s 0) (s 3) (s 4) (s 5) (s 7) (s 8) (s 9) w) : Tr (s220_p8_den K (fun s w => B1 [s 0, s 3, s 4, s 5, s 7, s 8, s 9] w) s w) :=
  tr_simple (P := Tryz.prog) (codes := [(cd (Tryz.f220.body.getD .skip) [1, 1, 1, 1, 1, 1, 0, 1, 0, 0, 0, 0]), (cd (Tryz.f220.body.getD .skip) [1, 1, 1, 1, 1, 1, 0, 1, 0, 0, 0, 1])]) (N := (fun s w => s220_p7 K B1 (s 0) (s 3) (s 4) (s 5) (s 7) (s 8) (s 9) w)) (N' := (s220_p7_den K (fun s w => B1 [s 0, s 3, s 4, s 5, s 7, s 8, s 9] w))) (X := (fun i => (bif Nat.beq i 0 then (fun s w => s220_p1 K (s 4) w) else (fun _ _ => False)))) (X' := (fun i => (bif Nat.beq i 0 then (s220_p1_den K) else (fun _ _ => False)))) (R := s220_R K) (s := s) (w := w) (p := s220_p8 K B1 (s 0) (s 3) (s 4) (s 5) (s 7) (s 8) (s 9) w) (q := s220_p8_den K (fun s w => B1 [s 0, s 3, s 4, s 5, s 7, s 8, s 9] w) s w) (fun s w h => s220_p7_ok K B1 s w @h) (fun i => (tr_bif (fun s w h => s220_p1_ok K s w @h) tr_id)) (by kernel_rfl) (by kernel_rfl) @h
def s220_p9_F (K : Value → World → Prop) (B1 : List Value → World → Prop) (l : List Value) (w : World) : Prop :=
  match l with
  | [t0, t3, t4, t5, t7, t8, t9] => s220_p8 K B1 t0 t3 t4 t5 t7 t8 t9 w
  | _ => False
theorem s220_p9_Fe {K : Value → World → Prop} {B1 : List Value → World → Prop} {t0 t3 t4 t5 t7 t8 t9 : Value} {w : World} : s220_p9_F K B1 [t0, t3, t4, t5, t7, t8, t9] w = s220_p8 K B1 t0 t3 t4 t5 t7 t8 t9 w := by kernel_rfl
def s220_p9 (K : Value → World → Prop) (t0 t3 t4 t5 t7 t8 t9 : Value) (w : World) : Prop :=
  LoopL (s220_p9_F K) [t0, t3, t4, t5, t7, t8, t9] w
def s220_p9_den (K : Value → World → Prop) : (Nat → Value) → World → Prop := fun s w => LoopP (fun M1 s w => s220_p8_den K M1 s w) s w
theorem s220_p9_ok (K : Value → World → Prop) (s : Nat → Value) (w : World) (h : s220_p9 K (s 0) (s 3) (s 4) (s 5) (s 7) (s 8) (s 9) w) : Tr (s220_p9_den K s w) :=
  tr_loop (G := fun N' s w => s220_p8_den K N' s w) (F := s220_p9_F K) (sel := fun s => [s 0, s 3, s 4, s 5, s 7, s 8, s 9]) (s := s) (w := w) (p := s220_p9 K (s 0) (s 3) (s 4) (s 5) (s 7) (s 8) (s 9) w) (q := s220_p9_den K s w) (fun B s w h => s220_p8_ok K B s w @h) (by kernel_rfl) (by kernel_rfl) @h
def s220_p10 (K : Value → World → Prop) (t0 t3 t4 t5 t6 t7 t57 : Value) (w : World) : Prop :=
  ifb t57
  (cl Tryz.prog 129 #[(.int .i64 22)] (fun t58 w =>
  stn 34 t4 t58 (fun w =>
  ldn 34 t4 (fun r0 _ =>
  K r0 w) w) w) w)
  (s220_p9 K t0 t3 t4 t5 t7 (.int .i64 0) t6 w)
def s220_p10_den (K : Value → World → Prop) : (Nat → Value) → World → Prop := denL Tryz.prog [(cd (Tryz.f220.body.getD .skip) [1, 1, 1, 1, 0, 1]), (cd (Tryz.f220.body.getD .skip) [1, 1, 1, 1, 1, 0]), (cd (Tryz.f220.body.getD .skip) [1, 1, 1, 1, 1, 1, 0, 0])] (s220_p9_den K) (fun i => (fun _ _ => False)) (s220_R K)
theorem s220_p10_ok (K : Value → World → Prop) (s : Nat → Value) (w : World) (h : s220_p10 K (s 0) (s 3) (s 4) (s 5) (s 6) (s 7) (s 57) w) : Tr (s220_p10_den K s w) :=
  tr_simple (P := Tryz.prog) (codes := [(cd (Tryz.f220.body.getD .skip) [1, 1, 1, 1, 0, 1]), (cd (Tryz.f220.body.getD .skip) [1, 1, 1, 1, 1, 0]), (cd (Tryz.f220.body.getD .skip) [1, 1, 1, 1, 1, 1, 0, 0])]) (N := (fun s w => s220_p9 K (s 0) (s 3) (s 4) (s 5) (s 7) (s 8) (s 9) w)) (N' := (s220_p9_den K)) (X := (fun i => (fun _ _ => False))) (X' := (fun i => (fun _ _ => False))) (R := s220_R K) (s := s) (w := w) (p := s220_p10 K (s 0) (s 3) (s 4) (s 5) (s 6) (s 7) (s 57) w) (q := s220_p10_den K s w) (fun s w h => s220_p9_ok K s w @h) (fun i => tr_id) (by kernel_rfl) (by kernel_rfl) @h
def s220_p11_d (K : Value → World → Prop) (t0 t3 t4 t5 t6 t7 : Value) (w0 w : World) : Prop :=
  fd 5 t3 (fun t43 _ =>
  ld1 t43 (fun t44 _ =>
  fd 0 t5 (fun t45 _ =>
  ld1 t45 (fun t46 _ =>
  boI .gtr t44 t46 (fun t47 _ =>
  gd t47 false (fd 5 t3) (fun t49 _ =>
  gd t47 false (ld1 t49) (fun t50 _ =>
  gd t47 false (fd 4 t3) (fun t51 _ =>
  gd t47 false (ld1 t51) (fun t52 _ =>
  gd t47 false (fd 2 t5) (fun t53 _ =>
  gd t47 false (ixa 3 1 t53 t52) (fun t54 _ =>
  gd t47 false (ld1 t54) (fun t55 _ =>
  gd t47 false (boI .gtr t50 t55) (fun t56 _ =>
  pk t47 (.bool true) t56 (fun t57 _ =>
  s220_p10 K t0 t3 t4 t5 t6 t7 t57 w) w0) w0) w0) w0) w0) w0) w0) w0) w0) w0) w0) w0) w0) w0
def s220_p11 (K : Value → World → Prop) (t0 t3 t4 t5 t6 t7 : Value) (w : World) : Prop := s220_p11_d K t0 t3 t4 t5 t6 t7 (drw w) (drw w)
def s220_p11_den (K : Value → World → Prop) : (Nat → Value) → World → Prop := denL Tryz.prog [(cd (Tryz.f220.body.getD .skip) [1, 1, 1, 1, 0, 0])] (s220_p10_den K) (fun i => (fun _ _ => False)) (s220_R K)
theorem s220_p11_ok (K : Value → World → Prop) (s : Nat → Value) (w : World) (h : s220_p11 K (s 0) (s 3) (s 4) (s 5) (s 6) (s 7) w) : Tr (s220_p11_den K s w) :=
  tr_draw (P := Tryz.prog) (ops := (ro (cd (Tryz.f220.body.getD .skip) [1, 1, 1, 1, 0, 0]))) (ms := [0, 1, 0, 4, 15, 31, 63, 127, 63, 319, 63, 1855, 3903, 8191, 16383]) (cs := [0, 1, 2, 3, 4, 5, 6, 7, 8, 9, 10, 11, 12, 13, 14]) (N := (fun s w => s220_p10 K (s 0) (s 3) (s 4) (s 5) (s 6) (s 7) (s 57) w)) (N' := (s220_p10_den K)) (s := s) (w := w) (p := s220_p11 K (s 0) (s 3) (s 4) (s 5) (s 6) (s 7) w) (q := s220_p11_den K s w) (by kernel_rfl) (by kernel_rfl) (fun s w h => s220_p10_ok K s w @h) (by kernel_rfl) (by kernel_rfl) @h
def s220_p12 (K : Value → World → Prop) (t0 t3 t4 t5 t6 t7 : Value) (w : World) : Prop :=
  nck t0 (fun t35 w =>
  fd 14 t35 (fun t36 w =>
  ld1 t36 (fun t37 w =>
  boI .lss t6 t37 (fun t38 w =>
  ifb t38
  (nck t0 (fun t40 w =>
  fd 14 t40 (fun t41 w =>
  ld1 t41 (fun t42 w =>
  s220_p11 K t0 t3 t4 t5 t42 t7 w) w) w) w)
  (s220_p11 K t0 t3 t4 t5 t6 t7 w)) w) w) w) w
def s220_p12_den (K : Value → World → Prop) : (Nat → Value) → World → Prop := denL Tryz.prog [(cd (Tryz.f220.body.getD .skip) [1, 1, 1, 0, 0]), (cd (Tryz.f220.body.getD .skip) [1, 1, 1, 0, 1])] (s220_p11_den K) (fun i => (fun _ _ => False)) (s220_R K)
theorem s220_p12_ok (K : Value → World → Prop) (s : Nat → Value) (w : World) (h : s220_p12 K (s 0) (s 3) (s 4) (s 5) (s 6) (s 7) w) : Tr (s220_p12_den K s w) :=
  tr_simple (P := Tryz.prog) (codes := [(cd (Tryz.f220.body.getD .skip) [1, 1, 1, 0, 0]), (cd (Tryz.f220.body.getD .skip) [1, 1, 1, 0, 1])]) (N := (fun s w => s220_p11 K (s 0) (s 3) (s 4) (s 5) (s 6) (s 7) w)) (N' := (s220_p11_den K)) (X := (fun i => (fun _ _ => False))) (X' := (fun i => (fun _ _ => False))) (R := s220_R K) (s := s) (w := w) (p := s220_p12 K (s 0) (s 3) (s 4) (s 5) (s 6) (s 7) w) (q := s220_p12_den K s w) (fun s w h => s220_p11_ok K s w @h) (fun i => tr_id) (by kernel_rfl) (by kernel_rfl) @h
def s220_p13_d (K : Value → World → Prop) (t0 t3 t4 t5 : Value) (w0 w : World) : Prop :=
  fd 3 t3 (fun t20 _ =>
  ld1 t20 (fun t21 _ =>
  nck t0 (fun t23 _ =>
  fd 14 t23 (fun t24 _ =>
  ld1 t24 (fun t25 _ =>
  nck t0 (fun t27 _ =>
  fd 0 t27 (fun t28 _ =>
  fd 2 t28 (fun t29 _ =>
  ld1 t29 (fun t30 _ =>
  boI .add t25 t30 (fun t31 _ =>
  boI .sub t31 (.int .i64 1) (fun t32 _ =>
  s220_p12 K t0 t3 t4 t5 t21 t32 w) w0) w0) w0) w0) w0) w0) w0) w0) w0) w0) w0
def s220_p13 (K : Value → World → Prop) (t0 t3 t4 t5 : Value) (w : World) : Prop := s220_p13_d K t0 t3 t4 t5 (drw w) (drw w)
def s220_p13_den (K : Value → World → Prop) : (Nat → Value) → World → Prop := denL Tryz.prog [(cd (Tryz.f220.body.getD .skip) [1, 1, 0])] (s220_p12_den K) (fun i => (fun _ _ => False)) (s220_R K)
theorem s220_p13_ok (K : Value → World → Prop) (s : Nat → Value) (w : World) (h : s220_p13 K (s 0) (s 3) (s 4) (s 5) w) : Tr (s220_p13_den K s w) :=
  tr_draw (P := Tryz.prog) (ops := (ro (cd (Tryz.f220.body.getD .skip) [1, 1, 0]))) (ms := [0, 1, 0, 4, 12, 28, 0, 64, 192, 448, 960, 2044, 4092, 3, 16383]) (cs := [0, 1, 2, 3, 4, 5, 6, 7, 8, 9, 10, 11, 12, 13, 14]) (N := (fun s w => s220_p12 K (s 0) (s 3) (s 4) (s 5) (s 6) (s 7) w)) (N' := (s220_p12_den K)) (s := s) (w := w) (p := s220_p13 K (s 0) (s 3) (s 4) (s 5) w) (q := s220_p13_den K s w) (by kernel_rfl) (by kernel_rfl) (fun s w h => s220_p12_ok K s w @h) (by kernel_rfl) (by kernel_rfl) @h
def s220_p14_d (K : Value → World → Prop) (t0 t3 t4 : Value) (w0 w : World) : Prop :=
  nck t0 (fun t12 _ =>
  fd 0 t12 (fun t13 _ =>
  fd 0 t13 (fun t14 _ =>
  ld1 t14 (fun t15 _ =>
  fd 2 t3 (fun t16 _ =>
  ld1 t16 (fun t17 _ =>
  ixs 5 t15 t17 (fun t18 _ =>
  ldn 5 t18 (fun t19 _ =>
  nw 113 #[(.int .i64 0), (.int .i64 0), (.int .i64 0), (.int .i64 0), (.int .i64 0)] (fun t5 w =>
  Below w0.heap.size w0 w ∧
  stn 5 t5 t19 (fun w =>
  s220_p13 K t0 t3 t4 t5 w) w) w) w0) w0) w0) w0) w0) w0) w0) w0
def s220_p14 (K : Value → World → Prop) (t0 t3 t4 : Value) (w : World) : Prop := s220_p14_d K t0 t3 t4 (drw w) (drw w)
def s220_p14_den (K : Value → World → Prop) : (Nat → Value) → World → Prop := denL Tryz.prog [(cd (Tryz.f220.body.getD .skip) [1, 0])] (s220_p13_den K) (fun i => (fun _ _ => False)) (s220_R K)
theorem s220_p14_ok (K : Value → World → Prop) (s : Nat → Value) (w : World) (h : s220_p14 K (s 0) (s 3) (s 4) w) : Tr (s220_p14_den K s w) :=
  tr_draw (P := Tryz.prog) (ops := (ro (cd (Tryz.f220.body.getD .skip) [1, 0]))) (ms := [0, 1, 3, 7, 15, 0, 32, 127, 255, 0, 1023]) (cs := [0, 1, 2, 3, 4, 5, 6, 7, 8]) (N := (fun s w => s220_p13 K (s 0) (s 3) (s 4) (s 5) w)) (N' := (s220_p13_den K)) (s := s) (w := w) (p := s220_p14 K (s 0) (s 3) (s 4) w) (q := s220_p14_den K s w) (by kernel_rfl) (by kernel_rfl) (fun s w h => s220_p13_ok K s w @h) (by kernel_rfl) (by kernel_rfl) @h
def s220_p15 (K : Value → World → Prop) (t0 t1 : Value) (w : World) : Prop :=
  nw 52 (t1).cells (fun t3 w =>
  nw 94 #[(.int .i64 0), (.int .u8 0), (.int .i64 0), (.int .i64 0), (.int .i64 0), (.int .i64 0), (.int .i64 0), (.slice none 0 0), (.int .i64 0), (.int .i64 0), (.int .i64 0), (.slice none 0 0), (.int .i64 0), (.int .i64 0), (.int .i64 0), (.int .i64 0), (.int .i64 0), (.int .i64 0), (.slice none 0 0), (.int .i64 0), (.int .i64 0), (.int .i64 0), (.int .i64 0), (.int .i64 0), (.int .i64 0), (.int .i64 0), (.int .i64 0), (.int .i64 0), (.int .i64 0), (.int .i64 0), (.int .i64 0), (.int .i64 0), (.int .i64 0), (.int .i64 0)] (fun t4 w =>
  s220_p14 K t0 t3 t4 w) w) w
def s220_p15_den (K : Value → World → Prop) : (Nat → Value) → World → Prop := denL Tryz.prog [(cd (Tryz.f220.body.getD .skip) [0])] (s220_p14_den K) (fun i => (fun _ _ => False)) (s220_R K)
theorem s220_p15_ok (K : Value → World → Prop) (s : Nat → Value) (w : World) (h : s220_p15 K (s 0) (s 1) w) : Tr (s220_p15_den K s w) :=
  tr_simple (P := Tryz.prog) (codes := [(cd (Tryz.f220.body.getD .skip) [0])]) (N := (fun s w => s220_p14 K (s 0) (s 3) (s 4) w)) (N' := (s220_p14_den K)) (X := (fun i => (fun _ _ => False))) (X' := (fun i => (fun _ _ => False))) (R := s220_R K) (s := s) (w := w) (p := s220_p15 K (s 0) (s 1) w) (q := s220_p15_den K s w) (fun s w h => s220_p14_ok K s w @h) (fun i => tr_id) (by kernel_rfl) (by kernel_rfl) @h
/-- the call, from the text -/
theorem c220 (t0 t1 : Value) {K : Value → World → Prop} {w : World} (h : s220_p15 K t0 t1 w) : cl Tryz.prog 220 #[t0, t1] K w :=
  calls_of_tr (c := (Tryz.f220.body.getD .skip)) (fn := Tryz.f220) (q := s220_p15_den K (st0 #[t0, t1]) w) Tryz.func220 (by kernel_rfl) (by kernel_rfl) (Nat.le_of_ble_eq_true (by kernel_rfl)) (by kernel_rfl) (by kernel_rfl) (s220_p15_ok K (st0 #[t0, t1]) w @h)

/-! ### function 221 : (*e2e.engine.Engine).quote -/
def s221_R (K : Value → World → Prop) (s : Nat → Value) (w : World) : Prop := retv Tryz.prog s Tryz.f221.results.toList (fun vs => K (pack vs) w) w
def s221_p1 (K : Value → World → Prop) (t4 : Value) (w : World) : Prop :=
  ldn 34 t4 (fun r0 _ =>
  K r0 w) w
def s221_p1_den (K : Value → World → Prop) : (Nat → Value) → World → Prop := denL Tryz.prog [(cd (Tryz.f221.body.getD .skip) [1, 1, 1])] (fun _ _ => False) (fun i => (fun _ _ => False)) (s221_R K)
theorem s221_p1_ok (K : Value → World → Prop) (s : Nat → Value) (w : World) (h : s221_p1 K (s 4) w) : Tr (s221_p1_den K s w) :=
  tr_simple (P := Tryz.prog) (codes := [(cd (Tryz.f221.body.getD .skip) [1, 1, 1])]) (N := (fun _ _ => False)) (N' := (fun _ _ => False)) (X := (fun i => (fun _ _ => False))) (X' := (fun i => (fun _ _ => False))) (R := s221_R K) (s := s) (w := w) (p := s221_p1 K (s 4) w) (q := s221_p1_den K s w) tr_id (fun i => tr_id) (by kernel_rfl) (by kernel_rfl) @h
def s221_p2_d (K : Value → World → Prop) (t0 t3 t4 : Value) (w0 w : World) : Prop :=
  fd 0 t3 (fun t25 _ =>
  ld1 t25 (fun t26 _ =>
  nck t0 (fun t28 _ =>
  fd 15 t28 (fun t29 _ =>
  ld1 t29 (fun t30 _ =>
  nck t0 (fun t34 _ =>
  fd 14 t34 (fun t35 _ =>
  ld1 t35 (fun t36 _ =>
  nck t0 (fun t38 _ =>
  fd 0 t38 (fun t39 _ =>
  fd 6 t39 (fun t40 _ =>
  ld1 t40 (fun t41 _ =>
  boI .add t36 t41 (fun t42 _ =>
  cl Tryz.prog 162 #[t30] (fun t31 w =>
  Below w0.heap.size w0 w ∧
  boI .add t31 (.int .i64 1) (fun t32 w =>
  Below w0.heap.size w0 w ∧
  bdq [(.int .i64 0), (.int .u8 0), (.int .i64 0), (.int .i64 0), (.int .i64 0), (.int .i64 0), (.int .i64 0), (.slice none 0 0), (.int .i64 0), (.int .i64 0), (.int .i64 0), (.slice none 0 0), (.int .i64 0), (.int .i64 0), (.int .i64 0), (.int .i64 0), (.int .i64 0), (.int .i64 0), (.slice none 0 0), (.int .i64 0), (.int .i64 0), (.int .i64 0), (.int .i64 0), (.int .i64 0), (.int .i64 0), (.int .i64 0), (.int .i64 0), (.int .i64 0), (.int .i64 0), (.int .i64 0), (.int .i64 0), (.int .i64 0), (.int .i64 0), (.int .i64 0)] [(some (1, 1), t26), (some (2, 1), t32), (some (3, 1), t42)] (fun t43 w =>
  stn 34 t4 t43 (fun w =>
  s221_p1 K t4 w) w) w) w) w) w0) w0) w0) w0) w0) w0) w0) w0) w0) w0) w0) w0) w0
def s221_p2 (K : Value → World → Prop) (t0 t3 t4 : Value) (w : World) : Prop := s221_p2_d K t0 t3 t4 (drw w) (drw w)
def s221_p2_den (K : Value → World → Prop) : (Nat → Value) → World → Prop := denL Tryz.prog [(cd (Tryz.f221.body.getD .skip) [1, 1, 0])] (s221_p1_den K) (fun i => (fun _ _ => False)) (s221_R K)
theorem s221_p2_ok (K : Value → World → Prop) (s : Nat → Value) (w : World) (h : s221_p2 K (s 0) (s 3) (s 4) w) : Tr (s221_p2_den K s w) :=
  tr_draw (P := Tryz.prog) (ops := (ro (cd (Tryz.f221.body.getD .skip) [1, 1, 0]))) (ms := [0, 1, 0, 4, 12, 28, 60, 124, 0, 256, 768, 1792, 0, 4096, 12288, 28672, 61440, 130816, 262143, 524287]) (cs := [0, 1, 2, 3, 4, 5, 8, 9, 10, 11, 12, 13, 14, 15, 16, 17]) (N := (fun s w => s221_p1 K (s 4) w)) (N' := (s221_p1_den K)) (s := s) (w := w) (p := s221_p2 K (s 0) (s 3) (s 4) w) (q := s221_p2_den K s w) (by kernel_rfl) (by kernel_rfl) (fun s w h => s221_p1_ok K s w @h) (by kernel_rfl) (by kernel_rfl) @h
def s221_p3 (K : Value → World → Prop) (t0 t3 t4 t5 : Value) (w : World) : Prop :=
  boI .neq t5 (.int .i64 0) (fun t22 w =>
  ifb t22
  (cl Tryz.prog 129 #[t5] (fun t24 w =>
  stn 34 t4 t24 (fun w =>
  ldn 34 t4 (fun r0 _ =>
  K r0 w) w) w) w)
  (s221_p2 K t0 t3 t4 w)) w
def s221_p3_den (K : Value → World → Prop) : (Nat → Value) → World → Prop := denL Tryz.prog [(cd (Tryz.f221.body.getD .skip) [1, 0, 1, 0]), (cd (Tryz.f221.body.getD .skip) [1, 0, 1, 1])] (s221_p2_den K) (fun i => (fun _ _ => False)) (s221_R K)
theorem s221_p3_ok (K : Value → World → Prop) (s : Nat → Value) (w : World) (h : s221_p3 K (s 0) (s 3) (s 4) (s 5) w) : Tr (s221_p3_den K s w) :=
  tr_simple (P := Tryz.prog) (codes := [(cd (Tryz.f221.body.getD .skip) [1, 0, 1, 0]), (cd (Tryz.f221.body.getD .skip) [1, 0, 1, 1])]) (N := (fun s w => s221_p2 K (s 0) (s 3) (s 4) w)) (N' := (s221_p2_den K)) (X := (fun i => (fun _ _ => False))) (X' := (fun i => (fun _ _ => False))) (R := s221_R K) (s := s) (w := w) (p := s221_p3 K (s 0) (s 3) (s 4) (s 5) w) (q := s221_p3_den K s w) (fun s w h => s221_p2_ok K s w @h) (fun i => tr_id) (by kernel_rfl) (by kernel_rfl) @h
def s221_p4_d (K : Value → World → Prop) (t0 t3 t4 : Value) (w0 w : World) : Prop :=
  nck t0 (fun t7 _ =>
  fd 15 t7 (fun t8 _ =>
  ld1 t8 (fun t9 _ =>
  nck t0 (fun t11 _ =>
  fd 14 t11 (fun t12 _ =>
  ld1 t12 (fun t13 _ =>
  fd 4 t3 (fun t14 _ =>
  ld1 t14 (fun t15 _ =>
  fd 5 t3 (fun t16 _ =>
  ld1 t16 (fun t17 _ =>
  fd 7 t3 (fun t18 _ =>
  ld1 t18 (fun t19 _ =>
  cl Tryz.prog 238 #[t9, t13, t15, t17, t19] (fun t20 w =>
  s221_p3 K t0 t3 t4 t20 w) w) w0) w0) w0) w0) w0) w0) w0) w0) w0) w0) w0) w0
def s221_p4 (K : Value → World → Prop) (t0 t3 t4 : Value) (w : World) : Prop := s221_p4_d K t0 t3 t4 (drw w) (drw w)
def s221_p4_den (K : Value → World → Prop) : (Nat → Value) → World → Prop := denL Tryz.prog [(cd (Tryz.f221.body.getD .skip) [1, 0, 0])] (s221_p3_den K) (fun i => (fun _ _ => False)) (s221_R K)
theorem s221_p4_ok (K : Value → World → Prop) (s : Nat → Value) (w : World) (h : s221_p4 K (s 0) (s 3) (s 4) w) : Tr (s221_p4_den K s w) :=
  tr_draw (P := Tryz.prog) (ops := (ro (cd (Tryz.f221.body.getD .skip) [1, 0, 0]))) (ms := [0, 1, 3, 7, 0, 16, 48, 112, 0, 256, 0, 1024, 0, 4096, 16383, 32767]) (cs := [0, 1, 2, 3, 4, 5, 6, 7, 8, 9, 10, 11, 12, 13]) (N := (fun s w => s221_p3 K (s 0) (s 3) (s 4) (s 5) w)) (N' := (s221_p3_den K)) (s := s) (w := w) (p := s221_p4 K (s 0) (s 3) (s 4) w) (q := s221_p4_den K s w) (by kernel_rfl) (by kernel_rfl) (fun s w h => s221_p3_ok K s w @h) (by kernel_rfl) (by kernel_rfl) @h
def s221_p5 (K : Value → World → Prop) (t0 t1 : Value) (w : World) : Prop :=
  nw 52 (t1).cells (fun t3 w =>
  nw 94 #[(.int .i64 0), (.int .u8 0), (.int .i64 0), (.int .i64 0), (.int .i64 0), (.int .i64 0), (.int .i64 0), (.slice none 0 0), (.int .i64 0), (.int .i64 0), (.int .i64 0), (.slice none 0 0), (.int .i64 0), (.int .i64 0), (.int .i64 0), (.int .i64 0), (.int .i64 0), (.int .i64 0), (.slice none 0 0), (.int .i64 0), (.int .i64 0), (.int .i64 0), (.int .i64 0), (.int .i64 0), (.int .i64 0), (.int .i64 0), (.int .i64 0), (.int .i64 0), (.int .i64 0), (.int .i64 0), (.int .i64 0), (.int .i64 0), (.int .i64 0), (.int .i64 0)] (fun t4 w =>
  s221_p4 K t0 t3 t4 w) w) w
def s221_p5_den (K : Value → World → Prop) : (Nat → Value) → World → Prop := denL Tryz.prog [(cd (Tryz.f221.body.getD .skip) [0])] (s221_p4_den K) (fun i => (fun _ _ => False)) (s221_R K)
theorem s221_p5_ok (K : Value → World → Prop) (s : Nat → Value) (w : World) (h : s221_p5 K (s 0) (s 1) w) : Tr (s221_p5_den K s w) :=
  tr_simple (P := Tryz.prog) (codes := [(cd (Tryz.f221.body.getD .skip) [0])]) (N := (fun s w => s221_p4 K (s 0) (s 3) (s 4) w)) (N' := (s221_p4_den K)) (X := (fun i => (fun _ _ => False))) (X' := (fun i => (fun _ _ => False))) (R := s221_R K) (s := s) (w := w) (p := s221_p5 K (s 0) (s 1) w) (q := s221_p5_den K s w) (fun s w h => s221_p4_ok K s w @h) (fun i => tr_id) (by kernel_rfl) (by kernel_rfl) @h
/-- the call, from the text -/
theorem c221 (t0 t1 : Value) {K : Value → World → Prop} {w : World} (h : s221_p5 K t0 t1 w) : cl Tryz.prog 221 #[t0, t1] K w :=
  calls_of_tr (c := (Tryz.f221.body.getD .skip)) (fn := Tryz.f221) (q := s221_p5_den K (st0 #[t0, t1]) w) Tryz.func221 (by kernel_rfl) (by kernel_rfl) (Nat.le_of_ble_eq_true (by kernel_rfl)) (by kernel_rfl) (by kernel_rfl) (s221_p5_ok K (st0 #[t0, t1]) w @h)

/-! ### function 222 : (*e2e.engine.Engine).count -/
def s222_R (K : Value → World → Prop) (s : Nat → Value) (w : World) : Prop := retv Tryz.prog s Tryz.f222.results.toList (fun vs => K (pack vs) w) w
def s222_p1 (K : Value → World → Prop) (t4 t5 : Value) (w : World) : Prop :=
  ldn 34 t5 (fun t38 w =>
  stn 34 t4 t38 (fun w =>
  ldn 34 t4 (fun r0 _ =>
  K r0 w) w) w) w
def s222_p1_den (K : Value → World → Prop) : (Nat → Value) → World → Prop := denL Tryz.prog [(cd (Tryz.f222.body.getD .skip) [1, 1, 1, 0]), (cd (Tryz.f222.body.getD .skip) [1, 1, 1, 1])] (fun _ _ => False) (fun i => (fun _ _ => False)) (s222_R K)
theorem s222_p1_ok (K : Value → World → Prop) (s : Nat → Value) (w : World) (h : s222_p1 K (s 4) (s 5) w) : Tr (s222_p1_den K s w) :=
  tr_simple (P := Tryz.prog) (codes := [(cd (Tryz.f222.body.getD .skip) [1, 1, 1, 0]), (cd (Tryz.f222.body.getD .skip) [1, 1, 1, 1])]) (N := (fun _ _ => False)) (N' := (fun _ _ => False)) (X := (fun i => (fun _ _ => False))) (X' := (fun i => (fun _ _ => False))) (R := s222_R K) (s := s) (w := w) (p := s222_p1 K (s 4) (s 5) w) (q := s222_p1_den K s w) tr_id (fun i => tr_id) (by kernel_rfl) (by kernel_rfl) @h
def s222_p2 (K : Value → World → Prop) (B1 : List Value → World → Prop) (t0 t4 t5 t6 : Value) (w : World) : Prop :=
  nck t0 (fun t14 w =>
  fd 15 t14 (fun t15 w =>
  ld1 t15 (fun t16 w =>
  cl Tryz.prog 162 #[t16] (fun t17 w =>
  boI .leq t6 t17 (fun t18 w =>
  ifb t18
  (nck t0 (fun t23 w =>
  fd 15 t23 (fun t24 w =>
  ld1 t24 (fun t25 w =>
  cl Tryz.prog 163 #[t25, t6] (fun t27 w =>
  exq t27 0 (fun t28 w =>
  exq t27 1 (fun t29 w =>
  nw 85 #[(.int .i64 0), (.int .i64 0), (.int .i64 0), (.int .i64 0), (.int .i64 0), (.int .i64 0), (.slice none 0 0)] (fun t7 w =>
  stn 7 t7 t28 (fun w =>
  fd 1 t7 (fun t30 w =>
  ld1 t30 (fun t31 w =>
  fd 22 t5 (fun t32 w =>
  ixa 10 1 t32 t31 (fun t33 w =>
  ld1 t33 (fun t34 w =>
  boI .add t34 (.int .i64 1) (fun t35 w =>
  fd 22 t5 (fun t36 w =>
  ixa 10 1 t36 t31 (fun t37 w =>
  st1 t37 t35 (fun w =>
  boI .add t6 (.int .i64 1) (fun t20 w =>
  B1 [t0, t4, t5, t20] w) w) w) w) w) w) w) w) w) w) w) w) w) w) w) w) w) w) w)
  (s222_p1 K t4 t5 w)) w) w) w) w) w
def s222_p2_den (K : Value → World → Prop) (M1 : (Nat → Value) → World → Prop) : (Nat → Value) → World → Prop := denL Tryz.prog [(cd (Tryz.f222.body.getD .skip) [1, 1, 0, 1, 0, 0, 0, 0]), (cd (Tryz.f222.body.getD .skip) [1, 1, 0, 1, 0, 0, 0, 1]), (cd (Tryz.f222.body.getD .skip) [1, 1, 0, 1, 0, 0, 1, 0]), (cd (Tryz.f222.body.getD .skip) [1, 1, 0, 1, 0, 0, 1, 1])] M1 (fun i => (bif Nat.beq i 0 then (s222_p1_den K) else (fun _ _ => False))) (s222_R K)
theorem s222_p2_ok (K : Value → World → Prop) (B1 : List Value → World → Prop) (s : Nat → Value) (w : World) (h : s222_p2 K B1 (s 0) (s 4) (s 5) (s 6) w) : Tr (s222_p2_den K (fun s w => B1 [s 0, s 4, s 5, s 6] w) s w) :=
  tr_simple (P := Tryz.prog) (codes := [(cd (Tryz.f222.body.getD .skip) [1, 1, 0, 1, 0, 0, 0, 0]), (cd (Tryz.f222.body.getD .skip) [1, 1, 0, 1, 0, 0, 0, 1]), (cd (Tryz.f222.body.getD .skip) [1, 1, 0, 1, 0, 0, 1, 0]), (cd (Tryz.f222.body.getD .skip) [1, 1, 0, 1, 0, 0, 1, 1])]) (N := (fun s w => B1 [s 0, s 4, s 5, s 6] w)) (N' := (fun s w => B1 [s 0, s 4, s 5, s 6] w)) (X := (fun i => (bif Nat.beq i 0 then (fun s w => s222_p1 K (s 4) (s 5) w) else (fun _ _ => False)))) (X' := (fun i => (bif Nat.beq i 0 then (s222_p1_den K) else (fun _ _ => False)))) (R := s222_R K) (s := s) (w := w) (p := s222_p2 K B1 (s 0) (s 4) (s 5) (s 6) w) (q := s222_p2_den K (fun s w => B1 [s 0, s 4, s 5, s 6] w) s w) tr_id (fun i => (tr_bif (fun s w h => s222_p1_ok K s w @h) tr_id)) (by kernel_rfl) (by kernel_rfl) @h
def s222_p3_F (K : Value → World → Prop) (B1 : List Value → World → Prop) (l : List Value) (w : World) : Prop :=
  match l with
  | [t0, t4, t5, t6] => s222_p2 K B1 t0 t4 t5 t6 w
  | _ => False
theorem s222_p3_Fe {K : Value → World → Prop} {B1 : List Value → World → Prop} {t0 t4 t5 t6 : Value} {w : World} : s222_p3_F K B1 [t0, t4, t5, t6] w = s222_p2 K B1 t0 t4 t5 t6 w := by kernel_rfl
def s222_p3 (K : Value → World → Prop) (t0 t4 t5 t6 : Value) (w : World) : Prop :=
  LoopL (s222_p3_F K) [t0, t4, t5, t6] w
def s222_p3_den (K : Value → World → Prop) : (Nat → Value) → World → Prop := fun s w => LoopP (fun M1 s w => s222_p2_den K M1 s w) s w
theorem s222_p3_ok (K : Value → World → Prop) (s : Nat → Value) (w : World) (h : s222_p3 K (s 0) (s 4) (s 5) (s 6) w) : Tr (s222_p3_den K s w) :=
  tr_loop (G := fun N' s w => s222_p2_den K N' s w) (F := s222_p3_F K) (sel := fun s => [s 0, s 4, s 5, s 6]) (s := s) (w := w) (p := s222_p3 K (s 0) (s 4) (s 5) (s 6) w) (q := s222_p3_den K s w) (fun B s w h => s222_p2_ok K B s w @h) (by kernel_rfl) (by kernel_rfl) @h
def s222_p4 (K : Value → World → Prop) (t0 t1 : Value) (w : World) : Prop :=
  nw 52 (t1).cells (fun t3 w =>
  nw 94 #[(.int .i64 0), (.int .u8 0), (.int .i64 0), (.int .i64 0), (.int .i64 0), (.int .i64 0), (.int .i64 0), (.slice none 0 0), (.int .i64 0), (.int .i64 0), (.int .i64 0), (.slice none 0 0), (.int .i64 0), (.int .i64 0), (.int .i64 0), (.int .i64 0), (.int .i64 0), (.int .i64 0), (.slice none 0 0), (.int .i64 0), (.int .i64 0), (.int .i64 0), (.int .i64 0), (.int .i64 0), (.int .i64 0), (.int .i64 0), (.int .i64 0), (.int .i64 0), (.int .i64 0), (.int .i64 0), (.int .i64 0), (.int .i64 0), (.int .i64 0), (.int .i64 0)] (fun t4 w =>
  fd 0 t3 (fun t9 w =>
  ld1 t9 (fun t10 w =>
  bdq [(.int .i64 0), (.int .u8 0), (.int .i64 0), (.int .i64 0), (.int .i64 0), (.int .i64 0), (.int .i64 0), (.slice none 0 0), (.int .i64 0), (.int .i64 0), (.int .i64 0), (.slice none 0 0), (.int .i64 0), (.int .i64 0), (.int .i64 0), (.int .i64 0), (.int .i64 0), (.int .i64 0), (.slice none 0 0), (.int .i64 0), (.int .i64 0), (.int .i64 0), (.int .i64 0), (.int .i64 0), (.int .i64 0), (.int .i64 0), (.int .i64 0), (.int .i64 0), (.int .i64 0), (.int .i64 0), (.int .i64 0), (.int .i64 0), (.int .i64 0), (.int .i64 0)] [(some (1, 1), t10)] (fun t11 w =>
  nw 94 #[(.int .i64 0), (.int .u8 0), (.int .i64 0), (.int .i64 0), (.int .i64 0), (.int .i64 0), (.int .i64 0), (.slice none 0 0), (.int .i64 0), (.int .i64 0), (.int .i64 0), (.slice none 0 0), (.int .i64 0), (.int .i64 0), (.int .i64 0), (.int .i64 0), (.int .i64 0), (.int .i64 0), (.slice none 0 0), (.int .i64 0), (.int .i64 0), (.int .i64 0), (.int .i64 0), (.int .i64 0), (.int .i64 0), (.int .i64 0), (.int .i64 0), (.int .i64 0), (.int .i64 0), (.int .i64 0), (.int .i64 0), (.int .i64 0), (.int .i64 0), (.int .i64 0)] (fun t5 w =>
  stn 34 t5 t11 (fun w =>
  s222_p3 K t0 t4 t5 (.int .i64 1) w) w) w) w) w) w) w) w
def s222_p4_den (K : Value → World → Prop) : (Nat → Value) → World → Prop := denL Tryz.prog [(cd (Tryz.f222.body.getD .skip) [0]), (cd (Tryz.f222.body.getD .skip) [1, 0]), (cd (Tryz.f222.body.getD .skip) [1, 1, 0, 0])] (s222_p3_den K) (fun i => (fun _ _ => False)) (s222_R K)
theorem s222_p4_ok (K : Value → World → Prop) (s : Nat → Value) (w : World) (h : s222_p4 K (s 0) (s 1) w) : Tr (s222_p4_den K s w) :=
  tr_simple (P := Tryz.prog) (codes := [(cd (Tryz.f222.body.getD .skip) [0]), (cd (Tryz.f222.body.getD .skip) [1, 0]), (cd (Tryz.f222.body.getD .skip) [1, 1, 0, 0])]) (N := (fun s w => s222_p3 K (s 0) (s 4) (s 5) (s 6) w)) (N' := (s222_p3_den K)) (X := (fun i => (fun _ _ => False))) (X' := (fun i => (fun _ _ => False))) (R := s222_R K) (s := s) (w := w) (p := s222_p4 K (s 0) (s 1) w) (q := s222_p4_den K s w) (fun s w h => s222_p3_ok K s w @h) (fun i => tr_id) (by kernel_rfl) (by kernel_rfl) @h
/-- the call, from the text -/
theorem c222 (t0 t1 : Value) {K : Value → World → Prop} {w : World} (h : s222_p4 K t0 t1 w) : cl Tryz.prog 222 #[t0, t1] K w :=
  calls_of_tr (c := (Tryz.f222.body.getD .skip)) (fn := Tryz.f222) (q := s222_p4_den K (st0 #[t0, t1]) w) Tryz.func222 (by kernel_rfl) (by kernel_rfl) (Nat.le_of_ble_eq_true (by kernel_rfl)) (by kernel_rfl) (by kernel_rfl) (s222_p4_ok K (st0 #[t0, t1]) w @h)

/-! ### function 223 : (*e2e.engine.Engine).place -/
def s223_R (K : Value → World → Prop) (s : Nat → Value) (w : World) : Prop := retv Tryz.prog s Tryz.f223.results.toList (fun vs => K (pack vs) w) w
def s223_p1 (K : Value → World → Prop) (t4 : Value) (w : World) : Prop :=
  cl Tryz.prog 129 #[(.int .i64 20)] (fun t72 w =>
  stn 34 t4 t72 (fun w =>
  ldn 34 t4 (fun r0 _ =>
  K r0 w) w) w) w
def s223_p1_den (K : Value → World → Prop) : (Nat → Value) → World → Prop := denL Tryz.prog [(cd (Tryz.f223.body.getD .skip) [1, 1, 1, 1, 1, 1, 0]), (cd (Tryz.f223.body.getD .skip) [1, 1, 1, 1, 1, 1, 1])] (fun _ _ => False) (fun i => (fun _ _ => False)) (s223_R K)
theorem s223_p1_ok (K : Value → World → Prop) (s : Nat → Value) (w : World) (h : s223_p1 K (s 4) w) : Tr (s223_p1_den K s w) :=
  tr_simple (P := Tryz.prog) (codes := [(cd (Tryz.f223.body.getD .skip) [1, 1, 1, 1, 1, 1, 0]), (cd (Tryz.f223.body.getD .skip) [1, 1, 1, 1, 1, 1, 1])]) (N := (fun _ _ => False)) (N' := (fun _ _ => False)) (X := (fun i => (fun _ _ => False))) (X' := (fun i => (fun _ _ => False))) (R := s223_R K) (s := s) (w := w) (p := s223_p1 K (s 4) w) (q := s223_p1_den K s w) tr_id (fun i => tr_id) (by kernel_rfl) (by kernel_rfl) @h
def s223_p2 (K : Value → World → Prop) (B1 : List Value → World → Prop) (t0 t3 t4 t7 t41 t42 t43 : Value) (w : World) : Prop :=
  boI .lss t43 t42 (fun t44 w =>
  ifb t44
  (ixs 1 t41 t43 (fun t46 w =>
  ld1 t46 (fun t47 w =>
  fd 1 t3 (fun t49 w =>
  ld1 t49 (fun t50 w =>
  boI .eql t47 t50 (fun t51 w =>
  ifb t51
  (boI .add t43 (.int .i64 1) (fun t53 w =>
  fd 4 t7 (fun t54 w =>
  st1 t54 t53 (fun w =>
  ldn 34 t7 (fun t55 w =>
  stn 34 t4 t55 (fun w =>
  ldn 34 t4 (fun r0 _ =>
  K r0 w) w) w) w) w) w) w)
  (nck t0 (fun t58 w =>
  fd 15 t58 (fun t59 w =>
  ld1 t59 (fun t60 w =>
  cl Tryz.prog 163 #[t60, t47] (fun t62 w =>
  exq t62 0 (fun t63 w =>
  exq t62 1 (fun t64 w =>
  nw 85 #[(.int .i64 0), (.int .i64 0), (.int .i64 0), (.int .i64 0), (.int .i64 0), (.int .i64 0), (.slice none 0 0)] (fun t10 w =>
  stn 7 t10 t63 (fun w =>
  fd 33 t7 (fun t65 w =>
  ld1 t65 (fun t66 w =>
  fd 3 t10 (fun t67 w =>
  ld1 t67 (fun t68 w =>
  boI .add t66 t68 (fun t69 w =>
  fd 33 t7 (fun t70 w =>
  st1 t70 t69 (fun w =>
  boI .add t43 (.int .i64 1) (fun t71 w =>
  B1 [t0, t3, t4, t7, t41, t42, t71] w) w) w) w) w) w) w) w) w) w) w) w) w) w) w) w) w)) w) w) w) w) w)
  (s223_p1 K t4 w)) w
def s223_p2_den (K : Value → World → Prop) (M1 : (Nat → Value) → World → Prop) : (Nat → Value) → World → Prop := denL Tryz.prog [(cd (Tryz.f223.body.getD .skip) [1, 1, 1, 1, 1, 0, 1, 0, 0, 0]), (cd (Tryz.f223.body.getD .skip) [1, 1, 1, 1, 1, 0, 1, 0, 0, 1, 0]), (cd (Tryz.f223.body.getD .skip) [1, 1, 1, 1, 1, 0, 1, 0, 0, 1, 1, 0]), (cd (Tryz.f223.body.getD .skip) [1, 1, 1, 1, 1, 0, 1, 0, 0, 1, 1, 1])] M1 (fun i => (bif Nat.beq i 0 then (s223_p1_den K) else (fun _ _ => False))) (s223_R K)
theorem s223_p2_ok (K : Value → World → Prop) (B1 : List Value → World → Prop) (s : Nat → Value) (w : World) (h : s223_p2 K B1 (s 0) (s 3) (s 4) (s 7) (s 41) (s 42) (s 43) w) : Tr (s223_p2_den K (fun s w => B1 [s 0, s 3, s 4, s 7, s 41, s 42, s 43] w) s w) :=
  tr_simple (P := Tryz.prog) (codes := [(cd (Tryz.f223.body.getD .skip) [1, 1, 1, 1, 1, 0, 1, 0, 0, 0]), (cd (Tryz.f223.body.getD .skip) [1, 1, 1, 1, 1, 0, 1, 0, 0, 1, 0]), (cd (Tryz.f223.body.getD .skip) [1, 1, 1, 1, 1, 0, 1, 0, 0, 1, 1, 0]), (cd (Tryz.f223.body.getD .skip) [1, 1, 1, 1, 1, 0, 1, 0, 0, 1, 1, 1])]) (N := (fun s w => B1 [s 0, s 3, s 4, s 7, s 41, s 42, s 43] w)) (N' := (fun s w => B1 [s 0, s 3, s 4, s 7, s 41, s 42, s 43] w)) (X := (fun i => (bif Nat.beq i 0 then (fun s w => s223_p1 K (s 4) w) else (fun _ _ => False)))) (X' := (fun i => (bif Nat.beq i 0 then (s223_p1_den K) else (fun _ _ => False)))) (R := s223_R K) (s := s) (w := w) (p := s223_p2 K B1 (s 0) (s 3) (s 4) (s 7) (s 41) (s 42) (s 43) w) (q := s223_p2_den K (fun s w => B1 [s 0, s 3, s 4, s 7, s 41, s 42, s 43] w) s w) tr_id (fun i => (tr_bif (fun s w h => s223_p1_ok K s w @h) tr_id)) (by kernel_rfl) (by kernel_rfl) @h
def s223_p3_F (K : Value → World → Prop) (B1 : List Value → World → Prop) (l : List Value) (w : World) : Prop :=
  match l with
  | [t0, t3, t4, t7, t41, t42, t43] => s223_p2 K B1 t0 t3 t4 t7 t41 t42 t43 w
  | _ => False
theorem s223_p3_Fe {K : Value → World → Prop} {B1 : List Value → World → Prop} {t0 t3 t4 t7 t41 t42 t43 : Value} {w : World} : s223_p3_F K B1 [t0, t3, t4, t7, t41, t42, t43] w = s223_p2 K B1 t0 t3 t4 t7 t41 t42 t43 w := by kernel_rfl
def s223_p3 (K : Value → World → Prop) (t0 t3 t4 t7 t41 t42 t43 : Value) (w : World) : Prop :=
  LoopL (s223_p3_F K) [t0, t3, t4, t7, t41, t42, t43] w
def s223_p3_den (K : Value → World → Prop) : (Nat → Value) → World → Prop := fun s w => LoopP (fun M1 s w => s223_p2_den K M1 s w) s w
theorem s223_p3_ok (K : Value → World → Prop) (s : Nat → Value) (w : World) (h : s223_p3 K (s 0) (s 3) (s 4) (s 7) (s 41) (s 42) (s 43) w) : Tr (s223_p3_den K s w) :=
  tr_loop (G := fun N' s w => s223_p2_den K N' s w) (F := s223_p3_F K) (sel := fun s => [s 0, s 3, s 4, s 7, s 41, s 42, s 43]) (s := s) (w := w) (p := s223_p3 K (s 0) (s 3) (s 4) (s 7) (s 41) (s 42) (s 43) w) (q := s223_p3_den K s w) (fun B s w h => s223_p2_ok K B s w @h) (by kernel_rfl) (by kernel_rfl) @h
def s223_p4_d (K : Value → World → Prop) (t0 t3 t4 t7 : Value) (w0 w : World) : Prop :=
  nck t0 (fun t36 _ =>
  fd 16 t36 (fun t37 _ =>
  ld1 t37 (fun t38 _ =>
  fd 32 t7 (fun t39 _ =>
  ld1 t39 (fun t40 _ =>
  cl Tryz.prog 164 #[t38, t40] (fun t41 w =>
  lnS t41 (fun t42 w =>
  s223_p3 K t0 t3 t4 t7 t41 t42 (.int .i64 0) w) w) w) w0) w0) w0) w0) w0
def s223_p4 (K : Value → World → Prop) (t0 t3 t4 t7 : Value) (w : World) : Prop := s223_p4_d K t0 t3 t4 t7 (drw w) (drw w)
def s223_p4_den (K : Value → World → Prop) : (Nat → Value) → World → Prop := denL Tryz.prog [(cd (Tryz.f223.body.getD .skip) [1, 1, 1, 1, 1, 0, 0])] (s223_p3_den K) (fun i => (fun _ _ => False)) (s223_R K)
theorem s223_p4_ok (K : Value → World → Prop) (s : Nat → Value) (w : World) (h : s223_p4 K (s 0) (s 3) (s 4) (s 7) w) : Tr (s223_p4_den K s w) :=
  tr_draw (P := Tryz.prog) (ops := (ro (cd (Tryz.f223.body.getD .skip) [1, 1, 1, 1, 1, 0, 0]))) (ms := [0, 1, 3, 7, 0, 16, 63, 127, 0]) (cs := [0, 1, 2, 3, 4, 5, 8]) (N := (fun s w => s223_p3 K (s 0) (s 3) (s 4) (s 7) (s 41) (s 42) (s 43) w)) (N' := (s223_p3_den K)) (s := s) (w := w) (p := s223_p4 K (s 0) (s 3) (s 4) (s 7) w) (q := s223_p4_den K s w) (by kernel_rfl) (by kernel_rfl) (fun s w h => s223_p3_ok K s w @h) (by kernel_rfl) (by kernel_rfl) @h
def s223_p5 (K : Value → World → Prop) (t0 t3 t4 t5 t6 : Value) (w : World) : Prop :=
  un .not t6 (fun t23 w =>
  ifb t23
  (cl Tryz.prog 129 #[(.int .i64 2)] (fun t24 w =>
  stn 34 t4 t24 (fun w =>
  ldn 34 t4 (fun r0 _ =>
  K r0 w) w) w) w)
  (fd 1 t5 (fun t25 w =>
  ld1 t25 (fun t26 w =>
  boI .neq t26 (.int .i64 7) (fun t27 w =>
  ifb t27
  (cl Tryz.prog 129 #[(.int .i64 8)] (fun t28 w =>
  stn 34 t4 t28 (fun w =>
  ldn 34 t4 (fun r0 _ =>
  K r0 w) w) w) w)
  (fd 0 t3 (fun t29 w =>
  ld1 t29 (fun t30 w =>
  fd 4 t5 (fun t31 w =>
  ld1 t31 (fun t32 w =>
  boI .sub t32 (.int .i64 1) (fun t33 w =>
  bdq [(.int .i64 0), (.int .u8 0), (.int .i64 0), (.int .i64 0), (.int .i64 0), (.int .i64 0), (.int .i64 0), (.slice none 0 0), (.int .i64 0), (.int .i64 0), (.int .i64 0), (.slice none 0 0), (.int .i64 0), (.int .i64 0), (.int .i64 0), (.int .i64 0), (.int .i64 0), (.int .i64 0), (.slice none 0 0), (.int .i64 0), (.int .i64 0), (.int .i64 0), (.int .i64 0), (.int .i64 0), (.int .i64 0), (.int .i64 0), (.int .i64 0), (.int .i64 0), (.int .i64 0), (.int .i64 0), (.int .i64 0), (.int .i64 0), (.int .i64 0), (.int .i64 0)] [(some (1, 1), t30), (some (32, 1), t33)] (fun t34 w =>
  nw 94 #[(.int .i64 0), (.int .u8 0), (.int .i64 0), (.int .i64 0), (.int .i64 0), (.int .i64 0), (.int .i64 0), (.slice none 0 0), (.int .i64 0), (.int .i64 0), (.int .i64 0), (.slice none 0 0), (.int .i64 0), (.int .i64 0), (.int .i64 0), (.int .i64 0), (.int .i64 0), (.int .i64 0), (.slice none 0 0), (.int .i64 0), (.int .i64 0), (.int .i64 0), (.int .i64 0), (.int .i64 0), (.int .i64 0), (.int .i64 0), (.int .i64 0), (.int .i64 0), (.int .i64 0), (.int .i64 0), (.int .i64 0), (.int .i64 0), (.int .i64 0), (.int .i64 0)] (fun t7 w =>
  stn 34 t7 t34 (fun w =>
  s223_p4 K t0 t3 t4 t7 w) w) w) w) w) w) w) w) w)) w) w) w)) w
def s223_p5_den (K : Value → World → Prop) : (Nat → Value) → World → Prop := denL Tryz.prog [(cd (Tryz.f223.body.getD .skip) [1, 1, 0, 0]), (cd (Tryz.f223.body.getD .skip) [1, 1, 0, 1]), (cd (Tryz.f223.body.getD .skip) [1, 1, 1, 0, 0]), (cd (Tryz.f223.body.getD .skip) [1, 1, 1, 0, 1]), (cd (Tryz.f223.body.getD .skip) [1, 1, 1, 1, 0])] (s223_p4_den K) (fun i => (fun _ _ => False)) (s223_R K)
theorem s223_p5_ok (K : Value → World → Prop) (s : Nat → Value) (w : World) (h : s223_p5 K (s 0) (s 3) (s 4) (s 5) (s 6) w) : Tr (s223_p5_den K s w) :=
  tr_simple (P := Tryz.prog) (codes := [(cd (Tryz.f223.body.getD .skip) [1, 1, 0, 0]), (cd (Tryz.f223.body.getD .skip) [1, 1, 0, 1]), (cd (Tryz.f223.body.getD .skip) [1, 1, 1, 0, 0]), (cd (Tryz.f223.body.getD .skip) [1, 1, 1, 0, 1]), (cd (Tryz.f223.body.getD .skip) [1, 1, 1, 1, 0])]) (N := (fun s w => s223_p4 K (s 0) (s 3) (s 4) (s 7) w)) (N' := (s223_p4_den K)) (X := (fun i => (fun _ _ => False))) (X' := (fun i => (fun _ _ => False))) (R := s223_R K) (s := s) (w := w) (p := s223_p5 K (s 0) (s 3) (s 4) (s 5) (s 6) w) (q := s223_p5_den K s w) (fun s w h => s223_p4_ok K s w @h) (fun i => tr_id) (by kernel_rfl) (by kernel_rfl) @h
def s223_p6_d (K : Value → World → Prop) (t0 t3 t4 : Value) (w0 w : World) : Prop :=
  nck t0 (fun t14 _ =>
  fd 15 t14 (fun t15 _ =>
  ld1 t15 (fun t16 _ =>
  fd 1 t3 (fun t17 _ =>
  ld1 t17 (fun t18 _ =>
  (cl Tryz.prog 163 #[t16, t18] (fun t19 w =>
  ((exq t19 0 (fun t20 w =>
  (exq t19 1 (fun t21 w =>
  nw 85 #[(.int .i64 0), (.int .i64 0), (.int .i64 0), (.int .i64 0), (.int .i64 0), (.int .i64 0), (.slice none 0 0)] (fun t5 w =>
  Below w0.heap.size w0 w ∧
  stn 7 t5 t20 (fun w =>
  s223_p5 K t0 t3 t4 t5 t21 w) w) w) w) ∧
  (nw 85 #[(.int .i64 0), (.int .i64 0), (.int .i64 0), (.int .i64 0), (.int .i64 0), (.int .i64 0), (.slice none 0 0)] (fun t5_2 w =>
  Below w0.heap.size w0 w ∧
  (exq t19 1 (fun t21_2 w =>
  stn 7 t5_2 t20 (fun w =>
  s223_p5 K t0 t3 t4 t5_2 t21_2 w) w) w) ∧
  (stn 7 t5_2 t20 (fun w =>
  exq t19 1 (fun t21_3 w =>
  s223_p5 K t0 t3 t4 t5_2 t21_3 w) w) w)) w)) w) ∧
  (exq t19 1 (fun t21_4 w =>
  (exq t19 0 (fun t20_2 w =>
  nw 85 #[(.int .i64 0), (.int .i64 0), (.int .i64 0), (.int .i64 0), (.int .i64 0), (.int .i64 0), (.slice none 0 0)] (fun t5_3 w =>
  Below w0.heap.size w0 w ∧
  stn 7 t5_3 t20_2 (fun w =>
  s223_p5 K t0 t3 t4 t5_3 t21_4 w) w) w) w) ∧
  (nw 85 #[(.int .i64 0), (.int .i64 0), (.int .i64 0), (.int .i64 0), (.int .i64 0), (.int .i64 0), (.slice none 0 0)] (fun t5_4 w =>
  Below w0.heap.size w0 w ∧
  exq t19 0 (fun t20_3 w =>
  stn 7 t5_4 t20_3 (fun w =>
  s223_p5 K t0 t3 t4 t5_4 t21_4 w) w) w) w)) w) ∧
  (nw 85 #[(.int .i64 0), (.int .i64 0), (.int .i64 0), (.int .i64 0), (.int .i64 0), (.int .i64 0), (.slice none 0 0)] (fun t5_5 w =>
  Below w0.heap.size w0 w ∧
  (exq t19 0 (fun t20_4 w =>
  (exq t19 1 (fun t21_5 w =>
  stn 7 t5_5 t20_4 (fun w =>
  s223_p5 K t0 t3 t4 t5_5 t21_5 w) w) w) ∧
  (stn 7 t5_5 t20_4 (fun w =>
  exq t19 1 (fun t21_6 w =>
  s223_p5 K t0 t3 t4 t5_5 t21_6 w) w) w)) w) ∧
  (exq t19 1 (fun t21_7 w =>
  exq t19 0 (fun t20_5 w =>
  stn 7 t5_5 t20_5 (fun w =>
  s223_p5 K t0 t3 t4 t5_5 t21_7 w) w) w) w)) w)) ∧
  (nw 85 #[(.int .i64 0), (.int .i64 0), (.int .i64 0), (.int .i64 0), (.int .i64 0), (.int .i64 0), (.slice none 0 0)] (fun t5_6 w =>
  Below w0.heap.size w0 w ∧
  (exq t19 0 (fun t20_6 w =>
  (exq t19 1 (fun t21_8 w =>
  stn 7 t5_6 t20_6 (fun w =>
  s223_p5 K t0 t3 t4 t5_6 t21_8 w) w) w) ∧
  (stn 7 t5_6 t20_6 (fun w =>
  exq t19 1 (fun t21_9 w =>
  s223_p5 K t0 t3 t4 t5_6 t21_9 w) w) w)) w) ∧
  (exq t19 1 (fun t21_10 w =>
  exq t19 0 (fun t20_7 w =>
  stn 7 t5_6 t20_7 (fun w =>
  s223_p5 K t0 t3 t4 t5_6 t21_10 w) w) w) w)) w)) w) ∧
  (nw 85 #[(.int .i64 0), (.int .i64 0), (.int .i64 0), (.int .i64 0), (.int .i64 0), (.int .i64 0), (.slice none 0 0)] (fun t5_7 w =>
  Below w0.heap.size w0 w ∧
  cl Tryz.prog 163 #[t16, t18] (fun t19_2 w =>
  (exq t19_2 0 (fun t20_8 w =>
  (exq t19_2 1 (fun t21_11 w =>
  stn 7 t5_7 t20_8 (fun w =>
  s223_p5 K t0 t3 t4 t5_7 t21_11 w) w) w) ∧
  (stn 7 t5_7 t20_8 (fun w =>
  exq t19_2 1 (fun t21_12 w =>
  s223_p5 K t0 t3 t4 t5_7 t21_12 w) w) w)) w) ∧
  (exq t19_2 1 (fun t21_13 w =>
  exq t19_2 0 (fun t20_9 w =>
  stn 7 t5_7 t20_9 (fun w =>
  s223_p5 K t0 t3 t4 t5_7 t21_13 w) w) w) w)) w) w)) w0) w0) w0) w0) w0
def s223_p6 (K : Value → World → Prop) (t0 t3 t4 : Value) (w : World) : Prop := s223_p6_d K t0 t3 t4 (drw w) (drw w)
def s223_p6_den (K : Value → World → Prop) : (Nat → Value) → World → Prop := denL Tryz.prog [(cd (Tryz.f223.body.getD .skip) [1, 0])] (s223_p5_den K) (fun i => (fun _ _ => False)) (s223_R K)
theorem s223_p6_ok (K : Value → World → Prop) (s : Nat → Value) (w : World) (h : s223_p6 K (s 0) (s 3) (s 4) w) : Tr (s223_p6_den K s w) :=
  tr_draw (P := Tryz.prog) (ops := (ro (cd (Tryz.f223.body.getD .skip) [1, 0]))) (ms := [0, 1, 3, 7, 0, 16, 63, 127, 255, 255, 0, 1535, 4095]) (cs := [0, 1, 2, 3, 4, 5]) (N := (fun s w => s223_p5 K (s 0) (s 3) (s 4) (s 5) (s 6) w)) (N' := (s223_p5_den K)) (s := s) (w := w) (p := s223_p6 K (s 0) (s 3) (s 4) w) (q := s223_p6_den K s w) (by kernel_rfl) (by kernel_rfl) (fun s w h => s223_p5_ok K s w @h) (by kernel_rfl) (by kernel_rfl) @h
def s223_p7 (K : Value → World → Prop) (t0 t1 : Value) (w : World) : Prop :=
  nw 52 (t1).cells (fun t3 w =>
  nw 94 #[(.int .i64 0), (.int .u8 0), (.int .i64 0), (.int .i64 0), (.int .i64 0), (.int .i64 0), (.int .i64 0), (.slice none 0 0), (.int .i64 0), (.int .i64 0), (.int .i64 0), (.slice none 0 0), (.int .i64 0), (.int .i64 0), (.int .i64 0), (.int .i64 0), (.int .i64 0), (.int .i64 0), (.slice none 0 0), (.int .i64 0), (.int .i64 0), (.int .i64 0), (.int .i64 0), (.int .i64 0), (.int .i64 0), (.int .i64 0), (.int .i64 0), (.int .i64 0), (.int .i64 0), (.int .i64 0), (.int .i64 0), (.int .i64 0), (.int .i64 0), (.int .i64 0)] (fun t4 w =>
  s223_p6 K t0 t3 t4 w) w) w
def s223_p7_den (K : Value → World → Prop) : (Nat → Value) → World → Prop := denL Tryz.prog [(cd (Tryz.f223.body.getD .skip) [0])] (s223_p6_den K) (fun i => (fun _ _ => False)) (s223_R K)
theorem s223_p7_ok (K : Value → World → Prop) (s : Nat → Value) (w : World) (h : s223_p7 K (s 0) (s 1) w) : Tr (s223_p7_den K s w) :=
  tr_simple (P := Tryz.prog) (codes := [(cd (Tryz.f223.body.getD .skip) [0])]) (N := (fun s w => s223_p6 K (s 0) (s 3) (s 4) w)) (N' := (s223_p6_den K)) (X := (fun i => (fun _ _ => False))) (X' := (fun i => (fun _ _ => False))) (R := s223_R K) (s := s) (w := w) (p := s223_p7 K (s 0) (s 1) w) (q := s223_p7_den K s w) (fun s w h => s223_p6_ok K s w @h) (fun i => tr_id) (by kernel_rfl) (by kernel_rfl) @h
/-- the call, from the text -/
theorem c223 (t0 t1 : Value) {K : Value → World → Prop} {w : World} (h : s223_p7 K t0 t1 w) : cl Tryz.prog 223 #[t0, t1] K w :=
  calls_of_tr (c := (Tryz.f223.body.getD .skip)) (fn := Tryz.f223) (q := s223_p7_den K (st0 #[t0, t1]) w) Tryz.func223 (by kernel_rfl) (by kernel_rfl) (Nat.le_of_ble_eq_true (by kernel_rfl)) (by kernel_rfl) (by kernel_rfl) (s223_p7_ok K (st0 #[t0, t1]) w @h)

end Go.Proofs.Qxb6500896aGreat
