import Derived.Test.Qxb6500893aDoorProg
import Derived.Test.Qxb6500893aDoorShMix4
namespace Go.Proofs.Qxb6500893aDoor
open Go.Sh Go.RowKit
set_option linter.unusedVariables false
set_option maxRecDepth 100000

/-! ### function 3 : e2e.poollaw.Refines -/
def s3_R (K : Value → World → Prop) (s : Nat → Value) (w : World) : Prop := retv Tryd.prog s Tryd.f3.results.toList (fun vs => K (pack vs) w) w
def s3_p1 (K : Value → World → Prop) (w : World) : Prop :=
  K (.bool true) w
def s3_p1_den (K : Value → World → Prop) : (Nat → Value) → World → Prop := denL Tryd.prog [(cd (Tryd.f3.body.getD .skip) [1, 1, 1, 1, 0]), (cd (Tryd.f3.body.getD .skip) [1, 1, 1, 1, 1])] (fun _ _ => False) (fun i => (fun _ _ => False)) (s3_R K)
theorem s3_p1_ok (K : Value → World → Prop) (s : Nat → Value) (w : World) (h : s3_p1 K w) : Tr (s3_p1_den K s w) :=
  tr_simple (P := Tryd.prog) (codes := [(cd (Tryd.f3.body.getD .skip) [1, 1, 1, 1, 0]), (cd (Tryd.f3.body.getD .skip) [1, 1, 1, 1, 1])]) (N := (fun _ _ => False)) (N' := (fun _ _ => False)) (X := (fun i => (fun _ _ => False))) (X' := (fun i => (fun _ _ => False))) (R := s3_R K) (s := s) (w := w) (p := s3_p1 K w) (q := s3_p1_den K s w) tr_id (fun i => tr_id) (by kernel_rfl) (by kernel_rfl) @h
def s3_p2 (K : Value → World → Prop) (B1 : List Value → World → Prop) (t3 t14 t15 t16 : Value) (w : World) : Prop :=
  boI .add t16 (.int .i64 1) (fun t97 w =>
  B1 [t3, t14, t15, t97] w) w
def s3_p2_den (K : Value → World → Prop) (M1 : (Nat → Value) → World → Prop) : (Nat → Value) → World → Prop := denL Tryd.prog [(cd (Tryd.f3.body.getD .skip) [1, 1, 1, 0, 1, 0, 0, 1, 1, 1])] M1 (fun i => (bif Nat.beq i 0 then (s3_p1_den K) else (fun _ _ => False))) (s3_R K)
theorem s3_p2_ok (K : Value → World → Prop) (B1 : List Value → World → Prop) (s : Nat → Value) (w : World) (h : s3_p2 K B1 (s 3) (s 14) (s 15) (s 16) w) : Tr (s3_p2_den K (fun s w => B1 [s 3, s 14, s 15, s 16] w) s w) :=
  tr_simple (P := Tryd.prog) (codes := [(cd (Tryd.f3.body.getD .skip) [1, 1, 1, 0, 1, 0, 0, 1, 1, 1])]) (N := (fun s w => B1 [s 3, s 14, s 15, s 16] w)) (N' := (fun s w => B1 [s 3, s 14, s 15, s 16] w)) (X := (fun i => (bif Nat.beq i 0 then (fun s w => s3_p1 K w) else (fun _ _ => False)))) (X' := (fun i => (bif Nat.beq i 0 then (s3_p1_den K) else (fun _ _ => False)))) (R := s3_R K) (s := s) (w := w) (p := s3_p2 K B1 (s 3) (s 14) (s 15) (s 16) w) (q := s3_p2_den K (fun s w => B1 [s 3, s 14, s 15, s 16] w) s w) tr_id (fun i => (tr_bif (fun s w h => s3_p1_ok K s w @h) tr_id)) (by kernel_rfl) (by kernel_rfl) @h
def s3_p3 (K : Value → World → Prop) (B1 : List Value → World → Prop) (t3 t14 t15 t16 t96 : Value) (w : World) : Prop :=
  ifb t96
  (K (.bool false) w)
  (s3_p2 K B1 t3 t14 t15 t16 w)
def s3_p3_den (K : Value → World → Prop) (M1 : (Nat → Value) → World → Prop) : (Nat → Value) → World → Prop := denL Tryd.prog [(cd (Tryd.f3.body.getD .skip) [1, 1, 1, 0, 1, 0, 0, 1, 1, 0, 0, 1, 1, 1, 1, 1, 1, 1])] (s3_p2_den K M1) (fun i => (bif Nat.beq i 1 then (s3_p2_den K M1) else (bif Nat.beq i 0 then (s3_p1_den K) else (fun _ _ => False)))) (s3_R K)
theorem s3_p3_ok (K : Value → World → Prop) (B1 : List Value → World → Prop) (s : Nat → Value) (w : World) (h : s3_p3 K B1 (s 3) (s 14) (s 15) (s 16) (s 96) w) : Tr (s3_p3_den K (fun s w => B1 [s 3, s 14, s 15, s 16] w) s w) :=
  tr_simple (P := Tryd.prog) (codes := [(cd (Tryd.f3.body.getD .skip) [1, 1, 1, 0, 1, 0, 0, 1, 1, 0, 0, 1, 1, 1, 1, 1, 1, 1])]) (N := (fun s w => s3_p2 K B1 (s 3) (s 14) (s 15) (s 16) w)) (N' := (s3_p2_den K (fun s w => B1 [s 3, s 14, s 15, s 16] w))) (X := (fun i => (bif Nat.beq i 1 then (fun s w => s3_p2 K B1 (s 3) (s 14) (s 15) (s 16) w) else (bif Nat.beq i 0 then (fun s w => s3_p1 K w) else (fun _ _ => False))))) (X' := (fun i => (bif Nat.beq i 1 then (s3_p2_den K (fun s w => B1 [s 3, s 14, s 15, s 16] w)) else (bif Nat.beq i 0 then (s3_p1_den K) else (fun _ _ => False))))) (R := s3_R K) (s := s) (w := w) (p := s3_p3 K B1 (s 3) (s 14) (s 15) (s 16) (s 96) w) (q := s3_p3_den K (fun s w => B1 [s 3, s 14, s 15, s 16] w) s w) (fun s w h => s3_p2_ok K B1 s w @h) (fun i => (tr_bif (fun s w h => s3_p2_ok K B1 s w @h) (tr_bif (fun s w h => s3_p1_ok K s w @h) tr_id))) (by kernel_rfl) (by kernel_rfl) @h
def s3_p4_d (K : Value → World → Prop) (B1 : List Value → World → Prop) (J : World → Prop) (t3 t14 t15 t16 : Value) (w0 w : World) : Prop :=
  nck t3 (fun t68 _ =>
  fd 1 t68 (fun t69 _ =>
  Go.Sh.V.qj J (ld1 t69) (fun t70 =>
  Go.Sh.V.qj J (cl Tryd.prog 16 #[t70]) (fun t71 =>
  cvi .i64 t71 (fun t72 _ =>
  nck t3 (fun t74 _ =>
  fd 2 t74 (fun t75 _ =>
  Go.Sh.V.qj J (ld1 t75) (fun t76 =>
  nck t76 (fun t77 _ =>
  fd 0 t77 (fun t78 _ =>
  Go.Sh.V.qj J (ld1 t78) (fun t79 =>
  boI .neq t72 t79 (fun t80 _ =>
  gd t80 false (fun K w => K t3 w) (fun t82 _ =>
  gd t80 false (nck t82) (fun t83 _ =>
  gd t80 false (fd 1 t83) (fun t84 _ =>
  Go.Sh.V.qj J (gd t80 false (ld1 t84)) (fun t85 =>
  Go.Sh.V.qj J (gd t80 false (cl Tryd.prog 17 #[t85])) (fun t86 =>
  gd t80 false (fun K w => K t3 w) (fun t87 _ =>
  gd t80 false (nck t87) (fun t88 _ =>
  gd t80 false (fd 2 t88) (fun t89 _ =>
  Go.Sh.V.qj J (gd t80 false (ld1 t89)) (fun t90 =>
  gd t80 false (nck t90) (fun t91 _ =>
  gd t80 false (fd 1 t91) (fun t92 _ =>
  Go.Sh.V.qj J (gd t80 false (ld1 t92)) (fun t93 =>
  gd t80 false (lnS t93) (fun t94 _ =>
  gd t80 false (boI .neq t86 t94) (fun t95 _ =>
  pk t80 (.bool true) t95 (fun t96 _ =>
  ∀ w, J w →
  s3_p3 K B1 t3 t14 t15 t16 t96 w) w0) w0) w0)) w0) w0)) w0) w0) w0))) w0) w0) w0) w0)) w0) w0)) w0) w0) w0))) w0) w0
def s3_p4 (K : Value → World → Prop) (B1 : List Value → World → Prop) (t3 t14 t15 t16 : Value) (w : World) : Prop := ∃ J : World → Prop, J (drw w) ∧ s3_p4_d K B1 J t3 t14 t15 t16 (drw w) (drw w)
def s3_p4_den (K : Value → World → Prop) (M1 : (Nat → Value) → World → Prop) : (Nat → Value) → World → Prop := denL Tryd.prog [(cd (Tryd.f3.body.getD .skip) [1, 1, 1, 0, 1, 0, 0, 1, 1, 0, 0, 1, 1, 1, 1, 1, 1, 0])] (s3_p3_den K M1) (fun i => (bif Nat.beq i 1 then (s3_p2_den K M1) else (bif Nat.beq i 0 then (s3_p1_den K) else (fun _ _ => False)))) (s3_R K)
theorem s3_p4_ok (K : Value → World → Prop) (B1 : List Value → World → Prop) (s : Nat → Value) (w : World) (h : s3_p4 K B1 (s 3) (s 14) (s 15) (s 16) w) : Tr (s3_p4_den K (fun s w => B1 [s 3, s 14, s 15, s 16] w) s w) :=
  Go.Sh.V.tr_drawV (P := Tryd.prog) (ops := (ro (cd (Tryd.f3.body.getD .skip) [1, 1, 1, 0, 1, 0, 0, 1, 1, 0, 0, 1, 1, 1, 1, 1, 1, 0]))) (cs := [0, 1, 2, 3, 4, 5, 6, 7, 8, 9, 10, 11, 12, 13, 14, 15, 16, 17, 18, 19, 20, 21, 22, 23, 24, 25, 26, 27, 28, 29]) (N := (fun s w => s3_p3 K B1 (s 3) (s 14) (s 15) (s 16) (s 96) w)) (N' := (s3_p3_den K (fun s w => B1 [s 3, s 14, s 15, s 16] w))) (s := s) (w := w) (p := fun J => s3_p4_d K B1 J (s 3) (s 14) (s 15) (s 16) (drw w) (drw w)) (q := s3_p4_den K (fun s w => B1 [s 3, s 14, s 15, s 16] w) s w) (by kernel_rfl) (by kernel_rfl) (fun s w h => s3_p3_ok K B1 s w @h) (by kernel_rfl) (by kernel_rfl) @h
def s3_p5 (K : Value → World → Prop) (B1 : List Value → World → Prop) (t3 t14 t15 t16 : Value) (w : World) : Prop :=
  ixs 4 t14 t16 (fun t18 w =>
  ldn 4 t18 (fun t19 w =>
  nw 28 #[(.int .u8 0), (.int .i64 0), (.int .i64 0), (.int .i64 0)] (fun t5 w =>
  stn 4 t5 t19 (fun w =>
  fd 0 t5 (fun t20 w =>
  ld1 t20 (fun t21 w =>
  boI .eql t21 (.int .u8 8) (fun t22 w =>
  ifb t22
  (s3_p2 K B1 t3 t14 t15 t16 w)
  (ldn 4 t5 (fun t24 w =>
  cl Tryd.prog 13 #[t3, t24] (fun t25 w =>
  nw 33 #[(.int .u8 0), (.int .i64 0), (.int .u32 0), (.int .i64 0), (.int .i64 0), (.int .i64 0)] (fun t6 w =>
  stn 6 t6 t25 (fun w =>
  ldn 6 t6 (fun t27 w =>
  cl Tryd.prog 14 #[t3, t27] (fun t28 w =>
  nw 41 #[(.int .i64 0), (.int .i64 0), (.int .u32 0), (.int .u32 0), (.int .u32 0), (.int .u32 0), (.int .u64 0), (.int .u64 0), (.slice none 0 0)] (fun t7 w =>
  stn 9 t7 t28 (fun w =>
  ldn 6 t6 (fun t31 w =>
  fd 2 t7 (fun t32 w =>
  ld1 t32 (fun t33 w =>
  cl Tryd.prog 15 #[t3, t31, t33] (fun t34 w =>
  exq t34 0 (fun t35 w =>
  exq t34 1 (fun t36 w =>
  nw 41 #[(.int .i64 0), (.int .i64 0), (.int .u32 0), (.int .u32 0), (.int .u32 0), (.int .u32 0), (.int .u64 0), (.int .u64 0), (.slice none 0 0)] (fun t8 w =>
  stn 9 t8 t35 (fun w =>
  un .not t36 (fun t38 w =>
  gd t38 false (fd 0 t7) (fun t40 w =>
  gd t38 false (ld1 t40) (fun t41 w =>
  gd t38 false (fd 0 t8) (fun t42 w =>
  gd t38 false (ld1 t42) (fun t43 w =>
  gd t38 false (boI .neq t41 t43) (fun t44 w =>
  pk t38 (.bool true) t44 (fun t45 w =>
  gd t45 false (fd 1 t7) (fun t47 w =>
  gd t45 false (ld1 t47) (fun t48 w =>
  gd t45 false (fd 1 t8) (fun t49 w =>
  gd t45 false (ld1 t49) (fun t50 w =>
  gd t45 false (boI .neq t48 t50) (fun t51 w =>
  pk t45 (.bool true) t51 (fun t52 w =>
  gd t52 false (fd 2 t7) (fun t54 w =>
  gd t52 false (ld1 t54) (fun t55 w =>
  gd t52 false (fd 2 t8) (fun t56 w =>
  gd t52 false (ld1 t56) (fun t57 w =>
  gd t52 false (boI .neq t55 t57) (fun t58 w =>
  pk t52 (.bool true) t58 (fun t59 w =>
  gd t59 false (fd 3 t7) (fun t61 w =>
  gd t59 false (ldn 4 t61) (fun t62 w =>
  gd t59 false (fd 3 t8) (fun t63 w =>
  gd t59 false (ldn 4 t63) (fun t64 w =>
  gd t59 false (bor Tryd.prog .neq 38 (.tmp 62) (.tmp 64) t62 t64) (fun t65 w =>
  pk t59 (.bool true) t65 (fun t66 w =>
  ifb t66
  (K (.bool false) w)
  (s3_p4 K B1 t3 t14 t15 t16 w)) w) w) w) w) w) w) w) w) w) w) w) w) w) w) w) w) w) w) w) w) w) w) w) w) w) w) w) w) w) w) w) w) w) w) w) w) w) w) w) w) w)) w) w) w) w) w) w) w
def s3_p5_den (K : Value → World → Prop) (M1 : (Nat → Value) → World → Prop) : (Nat → Value) → World → Prop := denL Tryd.prog [(cd (Tryd.f3.body.getD .skip) [1, 1, 1, 0, 1, 0, 0, 1, 1, 0, 0, 0]), (cd (Tryd.f3.body.getD .skip) [1, 1, 1, 0, 1, 0, 0, 1, 1, 0, 0, 1, 0, 0]), (cd (Tryd.f3.body.getD .skip) [1, 1, 1, 0, 1, 0, 0, 1, 1, 0, 0, 1, 0, 1]), (cd (Tryd.f3.body.getD .skip) [1, 1, 1, 0, 1, 0, 0, 1, 1, 0, 0, 1, 1, 0]), (cd (Tryd.f3.body.getD .skip) [1, 1, 1, 0, 1, 0, 0, 1, 1, 0, 0, 1, 1, 1, 0]), (cd (Tryd.f3.body.getD .skip) [1, 1, 1, 0, 1, 0, 0, 1, 1, 0, 0, 1, 1, 1, 1, 0]), (cd (Tryd.f3.body.getD .skip) [1, 1, 1, 0, 1, 0, 0, 1, 1, 0, 0, 1, 1, 1, 1, 1, 0, 0]), (cd (Tryd.f3.body.getD .skip) [1, 1, 1, 0, 1, 0, 0, 1, 1, 0, 0, 1, 1, 1, 1, 1, 0, 1])] (s3_p4_den K M1) (fun i => (bif Nat.beq i 1 then (s3_p2_den K M1) else (bif Nat.beq i 0 then (s3_p1_den K) else (fun _ _ => False)))) (s3_R K)
theorem s3_p5_ok (K : Value → World → Prop) (B1 : List Value → World → Prop) (s : Nat → Value) (w : World) (h : s3_p5 K B1 (s 3) (s 14) (s 15) (s 16) w) : Tr (s3_p5_den K (fun s w => B1 [s 3, s 14, s 15, s 16] w) s w) :=
  tr_simple (P := Tryd.prog) (codes := [(cd (Tryd.f3.body.getD .skip) [1, 1, 1, 0, 1, 0, 0, 1, 1, 0, 0, 0]), (cd (Tryd.f3.body.getD .skip) [1, 1, 1, 0, 1, 0, 0, 1, 1, 0, 0, 1, 0, 0]), (cd (Tryd.f3.body.getD .skip) [1, 1, 1, 0, 1, 0, 0, 1, 1, 0, 0, 1, 0, 1]), (cd (Tryd.f3.body.getD .skip) [1, 1, 1, 0, 1, 0, 0, 1, 1, 0, 0, 1, 1, 0]), (cd (Tryd.f3.body.getD .skip) [1, 1, 1, 0, 1, 0, 0, 1, 1, 0, 0, 1, 1, 1, 0]), (cd (Tryd.f3.body.getD .skip) [1, 1, 1, 0, 1, 0, 0, 1, 1, 0, 0, 1, 1, 1, 1, 0]), (cd (Tryd.f3.body.getD .skip) [1, 1, 1, 0, 1, 0, 0, 1, 1, 0, 0, 1, 1, 1, 1, 1, 0, 0]), (cd (Tryd.f3.body.getD .skip) [1, 1, 1, 0, 1, 0, 0, 1, 1, 0, 0, 1, 1, 1, 1, 1, 0, 1])]) (N := (fun s w => s3_p4 K B1 (s 3) (s 14) (s 15) (s 16) w)) (N' := (s3_p4_den K (fun s w => B1 [s 3, s 14, s 15, s 16] w))) (X := (fun i => (bif Nat.beq i 1 then (fun s w => s3_p2 K B1 (s 3) (s 14) (s 15) (s 16) w) else (bif Nat.beq i 0 then (fun s w => s3_p1 K w) else (fun _ _ => False))))) (X' := (fun i => (bif Nat.beq i 1 then (s3_p2_den K (fun s w => B1 [s 3, s 14, s 15, s 16] w)) else (bif Nat.beq i 0 then (s3_p1_den K) else (fun _ _ => False))))) (R := s3_R K) (s := s) (w := w) (p := s3_p5 K B1 (s 3) (s 14) (s 15) (s 16) w) (q := s3_p5_den K (fun s w => B1 [s 3, s 14, s 15, s 16] w) s w) (fun s w h => s3_p4_ok K B1 s w @h) (fun i => (tr_bif (fun s w h => s3_p2_ok K B1 s w @h) (tr_bif (fun s w h => s3_p1_ok K s w @h) tr_id))) (by kernel_rfl) (by kernel_rfl) @h
def s3_p6 (K : Value → World → Prop) (B1 : List Value → World → Prop) (t3 t14 t15 t16 : Value) (w : World) : Prop :=
  boI .lss t16 t15 (fun t17 w =>
  ifb t17
  (s3_p5 K B1 t3 t14 t15 t16 w)
  (s3_p1 K w)) w
def s3_p6_den (K : Value → World → Prop) (M1 : (Nat → Value) → World → Prop) : (Nat → Value) → World → Prop := denL Tryd.prog [(cd (Tryd.f3.body.getD .skip) [1, 1, 1, 0, 1, 0, 0, 0]), (cd (Tryd.f3.body.getD .skip) [1, 1, 1, 0, 1, 0, 0, 1, 0])] (s3_p5_den K M1) (fun i => (bif Nat.beq i 0 then (s3_p1_den K) else (fun _ _ => False))) (s3_R K)
theorem s3_p6_ok (K : Value → World → Prop) (B1 : List Value → World → Prop) (s : Nat → Value) (w : World) (h : s3_p6 K B1 (s 3) (s 14) (s 15) (s 16) w) : Tr (s3_p6_den K (fun s w => B1 [s 3, s 14, s 15, s 16] w) s w) :=
  tr_simple (P := Tryd.prog) (codes := [(cd (Tryd.f3.body.getD .skip) [1, 1, 1, 0, 1, 0, 0, 0]), (cd (Tryd.f3.body.getD .skip) [1, 1, 1, 0, 1, 0, 0, 1, 0])]) (N := (fun s w => s3_p5 K B1 (s 3) (s 14) (s 15) (s 16) w)) (N' := (s3_p5_den K (fun s w => B1 [s 3, s 14, s 15, s 16] w))) (X := (fun i => (bif Nat.beq i 0 then (fun s w => s3_p1 K w) else (fun _ _ => False)))) (X' := (fun i => (bif Nat.beq i 0 then (s3_p1_den K) else (fun _ _ => False)))) (R := s3_R K) (s := s) (w := w) (p := s3_p6 K B1 (s 3) (s 14) (s 15) (s 16) w) (q := s3_p6_den K (fun s w => B1 [s 3, s 14, s 15, s 16] w) s w) (fun s w h => s3_p5_ok K B1 s w @h) (fun i => (tr_bif (fun s w h => s3_p1_ok K s w @h) tr_id)) (by kernel_rfl) (by kernel_rfl) @h
def s3_p7_F (K : Value → World → Prop) (B1 : List Value → World → Prop) (l : List Value) (w : World) : Prop :=
  match l with
  | [t3, t14, t15, t16] => s3_p6 K B1 t3 t14 t15 t16 w
  | _ => False
theorem s3_p7_Fe {K : Value → World → Prop} {B1 : List Value → World → Prop} {t3 t14 t15 t16 : Value} {w : World} : s3_p7_F K B1 [t3, t14, t15, t16] w = s3_p6 K B1 t3 t14 t15 t16 w := by kernel_rfl
def s3_p7 (K : Value → World → Prop) (t3 t14 t15 t16 : Value) (w : World) : Prop :=
  LoopL (s3_p7_F K) [t3, t14, t15, t16] w
def s3_p7_den (K : Value → World → Prop) : (Nat → Value) → World → Prop := fun s w => LoopP (fun M1 s w => s3_p6_den K M1 s w) s w
theorem s3_p7_ok (K : Value → World → Prop) (s : Nat → Value) (w : World) (h : s3_p7 K (s 3) (s 14) (s 15) (s 16) w) : Tr (s3_p7_den K s w) :=
  tr_loop (G := fun N' s w => s3_p6_den K N' s w) (F := s3_p7_F K) (sel := fun s => [s 3, s 14, s 15, s 16]) (s := s) (w := w) (p := s3_p7 K (s 3) (s 14) (s 15) (s 16) w) (q := s3_p7_den K s w) (fun B s w h => s3_p6_ok K B s w @h) (by kernel_rfl) (by kernel_rfl) @h
def s3_p8 (K : Value → World → Prop) (t0 : Value) (w : World) : Prop :=
  cl Tryd.prog 11 #[t0] (fun t11 w =>
  un .not t11 (fun t12 w =>
  ifb t12
  (K (.bool true) w)
  (cl Tryd.prog 12 #[] (fun t13 w =>
  lnS t0 (fun t15 w =>
  s3_p7 K t13 t0 t15 (.int .i64 0) w) w) w)) w) w
def s3_p8_den (K : Value → World → Prop) : (Nat → Value) → World → Prop := denL Tryd.prog [(cd (Tryd.f3.body.getD .skip) [0]), (cd (Tryd.f3.body.getD .skip) [1, 0, 0]), (cd (Tryd.f3.body.getD .skip) [1, 0, 1]), (cd (Tryd.f3.body.getD .skip) [1, 1, 0]), (cd (Tryd.f3.body.getD .skip) [1, 1, 1, 0, 0])] (s3_p7_den K) (fun i => (fun _ _ => False)) (s3_R K)
theorem s3_p8_ok (K : Value → World → Prop) (s : Nat → Value) (w : World) (h : s3_p8 K (s 0) w) : Tr (s3_p8_den K s w) :=
  tr_simple (P := Tryd.prog) (codes := [(cd (Tryd.f3.body.getD .skip) [0]), (cd (Tryd.f3.body.getD .skip) [1, 0, 0]), (cd (Tryd.f3.body.getD .skip) [1, 0, 1]), (cd (Tryd.f3.body.getD .skip) [1, 1, 0]), (cd (Tryd.f3.body.getD .skip) [1, 1, 1, 0, 0])]) (N := (fun s w => s3_p7 K (s 3) (s 14) (s 15) (s 16) w)) (N' := (s3_p7_den K)) (X := (fun i => (fun _ _ => False))) (X' := (fun i => (fun _ _ => False))) (R := s3_R K) (s := s) (w := w) (p := s3_p8 K (s 0) w) (q := s3_p8_den K s w) (fun s w h => s3_p7_ok K s w @h) (fun i => tr_id) (by kernel_rfl) (by kernel_rfl) @h
/-- the call, from the text -/
theorem c3 (t0 : Value) {K : Value → World → Prop} {w : World} (h : s3_p8 K t0 w) : cl Tryd.prog 3 #[t0] K w :=
  calls_of_tr (c := (Tryd.f3.body.getD .skip)) (fn := Tryd.f3) (q := s3_p8_den K (st0 #[t0]) w) Tryd.func3 (by kernel_rfl) (by kernel_rfl) (Nat.le_of_ble_eq_true (by kernel_rfl)) (by kernel_rfl) (by kernel_rfl) (s3_p8_ok K (st0 #[t0]) w @h)

end Go.Proofs.Qxb6500893aDoor
