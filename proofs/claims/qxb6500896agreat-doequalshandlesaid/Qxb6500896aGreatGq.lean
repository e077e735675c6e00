import Derived.Test.Qxb6500896aGreatProg
import Derived.Test.Qxb6500896aGreatShMix3
namespace Go.Proofs.Qxb6500896aGreat
open Go.Sh Go.RowKit
set_option linter.unusedVariables false
set_option maxRecDepth 100000

/-! ### function 14 : e2e.enginelaw.DoEqualsHandle -/
def s14_R (K : Value → World → Prop) (s : Nat → Value) (w : World) : Prop := retv Tryz.prog s Tryz.f14.results.toList (fun vs => K (pack vs) w) w
def s14_p1 (K : Value → World → Prop) (t3 t4 : Value) (w : World) : Prop :=
  cl Tryz.prog 26 #[(.func (.func 24) #[t3] #[])] (fun t68 w =>
  cl Tryz.prog 26 #[(.func (.func 24) #[t4] #[])] (fun t71 w =>
  cl Tryz.prog 23 #[t68, t71] (fun t72 w =>
  K t72 w) w) w) w
def s14_p1_den (K : Value → World → Prop) : (Nat → Value) → World → Prop := denL Tryz.prog [(cd (Tryz.f14.body.getD .skip) [1, 1, 1, 1, 0]), (cd (Tryz.f14.body.getD .skip) [1, 1, 1, 1, 1])] (fun _ _ => False) (fun i => (fun _ _ => False)) (s14_R K)
theorem s14_p1_ok (K : Value → World → Prop) (s : Nat → Value) (w : World) (h : s14_p1 K (s 3) (s 4) w) : Tr (s14_p1_den K s w) :=
  tr_simple (P := Tryz.prog) (codes := [(cd (Tryz.f14.body.getD .skip) [1, 1, 1, 1, 0]), (cd (Tryz.f14.body.getD .skip) [1, 1, 1, 1, 1])]) (N := (fun _ _ => False)) (N' := (fun _ _ => False)) (X := (fun i => (fun _ _ => False))) (X' := (fun i => (fun _ _ => False))) (R := s14_R K) (s := s) (w := w) (p := s14_p1 K (s 3) (s 4) w) (q := s14_p1_den K s w) tr_id (fun i => tr_id) (by kernel_rfl) (by kernel_rfl) @h
def s14_p2 (K : Value → World → Prop) (B1 : List Value → World → Prop) (t3 t4 t17 t18 t19 : Value) (w : World) : Prop :=
  boI .add t19 (.int .i64 1) (fun t65 w =>
  B1 [t3, t4, t17, t18, t65] w) w
def s14_p2_den (K : Value → World → Prop) (M1 : (Nat → Value) → World → Prop) : (Nat → Value) → World → Prop := denL Tryz.prog [(cd (Tryz.f14.body.getD .skip) [1, 1, 1, 0, 1, 0, 0, 1, 1, 1])] M1 (fun i => (bif Nat.beq i 0 then (s14_p1_den K) else (fun _ _ => False))) (s14_R K)
theorem s14_p2_ok (K : Value → World → Prop) (B1 : List Value → World → Prop) (s : Nat → Value) (w : World) (h : s14_p2 K B1 (s 3) (s 4) (s 17) (s 18) (s 19) w) : Tr (s14_p2_den K (fun s w => B1 [s 3, s 4, s 17, s 18, s 19] w) s w) :=
  tr_simple (P := Tryz.prog) (codes := [(cd (Tryz.f14.body.getD .skip) [1, 1, 1, 0, 1, 0, 0, 1, 1, 1])]) (N := (fun s w => B1 [s 3, s 4, s 17, s 18, s 19] w)) (N' := (fun s w => B1 [s 3, s 4, s 17, s 18, s 19] w)) (X := (fun i => (bif Nat.beq i 0 then (fun s w => s14_p1 K (s 3) (s 4) w) else (fun _ _ => False)))) (X' := (fun i => (bif Nat.beq i 0 then (s14_p1_den K) else (fun _ _ => False)))) (R := s14_R K) (s := s) (w := w) (p := s14_p2 K B1 (s 3) (s 4) (s 17) (s 18) (s 19) w) (q := s14_p2_den K (fun s w => B1 [s 3, s 4, s 17, s 18, s 19] w) s w) tr_id (fun i => (tr_bif (fun s w h => s14_p1_ok K s w @h) tr_id)) (by kernel_rfl) (by kernel_rfl) @h
def s14_p3 (K : Value → World → Prop) (B1 : List Value → World → Prop) (t3 t4 t17 t18 t19 t64 : Value) (w : World) : Prop :=
  ifb t64
  (K (.bool false) w)
  (s14_p2 K B1 t3 t4 t17 t18 t19 w)
def s14_p3_den (K : Value → World → Prop) (M1 : (Nat → Value) → World → Prop) : (Nat → Value) → World → Prop := denL Tryz.prog [(cd (Tryz.f14.body.getD .skip) [1, 1, 1, 0, 1, 0, 0, 1, 1, 0, 0, 1, 1, 1, 1, 1, 1, 1])] (s14_p2_den K M1) (fun i => (bif Nat.beq i 1 then (s14_p2_den K M1) else (bif Nat.beq i 0 then (s14_p1_den K) else (fun _ _ => False)))) (s14_R K)
theorem s14_p3_ok (K : Value → World → Prop) (B1 : List Value → World → Prop) (s : Nat → Value) (w : World) (h : s14_p3 K B1 (s 3) (s 4) (s 17) (s 18) (s 19) (s 64) w) : Tr (s14_p3_den K (fun s w => B1 [s 3, s 4, s 17, s 18, s 19] w) s w) :=
  tr_simple (P := Tryz.prog) (codes := [(cd (Tryz.f14.body.getD .skip) [1, 1, 1, 0, 1, 0, 0, 1, 1, 0, 0, 1, 1, 1, 1, 1, 1, 1])]) (N := (fun s w => s14_p2 K B1 (s 3) (s 4) (s 17) (s 18) (s 19) w)) (N' := (s14_p2_den K (fun s w => B1 [s 3, s 4, s 17, s 18, s 19] w))) (X := (fun i => (bif Nat.beq i 1 then (fun s w => s14_p2 K B1 (s 3) (s 4) (s 17) (s 18) (s 19) w) else (bif Nat.beq i 0 then (fun s w => s14_p1 K (s 3) (s 4) w) else (fun _ _ => False))))) (X' := (fun i => (bif Nat.beq i 1 then (s14_p2_den K (fun s w => B1 [s 3, s 4, s 17, s 18, s 19] w)) else (bif Nat.beq i 0 then (s14_p1_den K) else (fun _ _ => False))))) (R := s14_R K) (s := s) (w := w) (p := s14_p3 K B1 (s 3) (s 4) (s 17) (s 18) (s 19) (s 64) w) (q := s14_p3_den K (fun s w => B1 [s 3, s 4, s 17, s 18, s 19] w) s w) (fun s w h => s14_p2_ok K B1 s w @h) (fun i => (tr_bif (fun s w h => s14_p2_ok K B1 s w @h) (tr_bif (fun s w h => s14_p1_ok K s w @h) tr_id))) (by kernel_rfl) (by kernel_rfl) @h
def s14_p4_d (K : Value → World → Prop) (B1 : List Value → World → Prop) (J : World → Prop) (t3 t4 t6 t7 t17 t18 t19 : Value) (w0 w : World) : Prop :=
  fd 1 t6 (fun t53 _ =>
  Go.Sh.R.qw J (ld1 t53) (fun t54 =>
  nck t4 (fun t57 _ =>
  fd 1 t57 (fun t58 _ =>
  Go.Sh.R.qw J (ld1 t58) (fun t59 =>
  Go.Sh.R.qw J (ldn 8 t7) (fun t60 =>
  cl Tryz.prog 24 #[t3, t54] (fun t55 w =>
  J w ∧
  cl Tryz.prog 58 #[t59, t60] (fun t61 w =>
  cl Tryz.prog 59 #[t61] (fun t62 w =>
  cl Tryz.prog 23 #[t55, t62] (fun t63 w =>
  un .not t63 (fun t64 w =>
  s14_p3 K B1 t3 t4 t17 t18 t19 t64 w) w) w) w) w) w))) w0) w0)) w0
def s14_p4 (K : Value → World → Prop) (B1 : List Value → World → Prop) (t3 t4 t6 t7 t17 t18 t19 : Value) (w : World) : Prop := ∃ J : World → Prop, J (drw w) ∧ s14_p4_d K B1 J t3 t4 t6 t7 t17 t18 t19 (drw w) (drw w)
def s14_p4_den (K : Value → World → Prop) (M1 : (Nat → Value) → World → Prop) : (Nat → Value) → World → Prop := denL Tryz.prog [(cd (Tryz.f14.body.getD .skip) [1, 1, 1, 0, 1, 0, 0, 1, 1, 0, 0, 1, 1, 1, 1, 1, 1, 0])] (s14_p3_den K M1) (fun i => (bif Nat.beq i 1 then (s14_p2_den K M1) else (bif Nat.beq i 0 then (s14_p1_den K) else (fun _ _ => False)))) (s14_R K)
theorem s14_p4_ok (K : Value → World → Prop) (B1 : List Value → World → Prop) (s : Nat → Value) (w : World) (h : s14_p4 K B1 (s 3) (s 4) (s 6) (s 7) (s 17) (s 18) (s 19) w) : Tr (s14_p4_den K (fun s w => B1 [s 3, s 4, s 17, s 18, s 19] w) s w) :=
  Go.Sh.R.tr_drawR (P := Tryz.prog) (ops := (ro (cd (Tryz.f14.body.getD .skip) [1, 1, 1, 0, 1, 0, 0, 1, 1, 0, 0, 1, 1, 1, 1, 1, 1, 0]))) (ms := [0, 0, 2, 7, 0, 16, 48, 112, 0, 511, 1023, 2047, 4095]) (cs := [0, 1, 2, 4, 5, 6, 7, 8]) (N := (fun s w => s14_p3 K B1 (s 3) (s 4) (s 17) (s 18) (s 19) (s 64) w)) (N' := (s14_p3_den K (fun s w => B1 [s 3, s 4, s 17, s 18, s 19] w))) (s := s) (w := w) (p := fun J => s14_p4_d K B1 J (s 3) (s 4) (s 6) (s 7) (s 17) (s 18) (s 19) (drw w) (drw w)) (q := s14_p4_den K (fun s w => B1 [s 3, s 4, s 17, s 18, s 19] w) s w) (by kernel_rfl) (by kernel_rfl) (fun s w h => s14_p3_ok K B1 s w @h) (by kernel_rfl) (by kernel_rfl) @h
def s14_p5 (K : Value → World → Prop) (B1 : List Value → World → Prop) (t3 t4 t6 t7 t17 t18 t19 t51 : Value) (w : World) : Prop :=
  ifb t51
  (K (.bool false) w)
  (s14_p4 K B1 t3 t4 t6 t7 t17 t18 t19 w)
def s14_p5_den (K : Value → World → Prop) (M1 : (Nat → Value) → World → Prop) : (Nat → Value) → World → Prop := denL Tryz.prog [(cd (Tryz.f14.body.getD .skip) [1, 1, 1, 0, 1, 0, 0, 1, 1, 0, 0, 1, 1, 1, 1, 1, 0, 1])] (s14_p4_den K M1) (fun i => (bif Nat.beq i 1 then (s14_p2_den K M1) else (bif Nat.beq i 0 then (s14_p1_den K) else (fun _ _ => False)))) (s14_R K)
theorem s14_p5_ok (K : Value → World → Prop) (B1 : List Value → World → Prop) (s : Nat → Value) (w : World) (h : s14_p5 K B1 (s 3) (s 4) (s 6) (s 7) (s 17) (s 18) (s 19) (s 51) w) : Tr (s14_p5_den K (fun s w => B1 [s 3, s 4, s 17, s 18, s 19] w) s w) :=
  tr_simple (P := Tryz.prog) (codes := [(cd (Tryz.f14.body.getD .skip) [1, 1, 1, 0, 1, 0, 0, 1, 1, 0, 0, 1, 1, 1, 1, 1, 0, 1])]) (N := (fun s w => s14_p4 K B1 (s 3) (s 4) (s 6) (s 7) (s 17) (s 18) (s 19) w)) (N' := (s14_p4_den K (fun s w => B1 [s 3, s 4, s 17, s 18, s 19] w))) (X := (fun i => (bif Nat.beq i 1 then (fun s w => s14_p2 K B1 (s 3) (s 4) (s 17) (s 18) (s 19) w) else (bif Nat.beq i 0 then (fun s w => s14_p1 K (s 3) (s 4) w) else (fun _ _ => False))))) (X' := (fun i => (bif Nat.beq i 1 then (s14_p2_den K (fun s w => B1 [s 3, s 4, s 17, s 18, s 19] w)) else (bif Nat.beq i 0 then (s14_p1_den K) else (fun _ _ => False))))) (R := s14_R K) (s := s) (w := w) (p := s14_p5 K B1 (s 3) (s 4) (s 6) (s 7) (s 17) (s 18) (s 19) (s 51) w) (q := s14_p5_den K (fun s w => B1 [s 3, s 4, s 17, s 18, s 19] w) s w) (fun s w h => s14_p4_ok K B1 s w @h) (fun i => (tr_bif (fun s w h => s14_p2_ok K B1 s w @h) (tr_bif (fun s w h => s14_p1_ok K s w @h) tr_id))) (by kernel_rfl) (by kernel_rfl) @h
def s14_p6_d (K : Value → World → Prop) (B1 : List Value → World → Prop) (t3 t4 t6 t7 t9 t17 t18 t19 : Value) (w0 w : World) : Prop :=
  nck t4 (fun t45 _ =>
  fd 1 t45 (fun t46 _ =>
  ld1 t46 (fun t47 _ =>
  ldn 8 t9 (fun t48 _ =>
  cl Tryz.prog 58 #[t47, t48] (fun t49 w =>
  fi Tryz.prog 94 t49 0 (fun t50 w =>
  boI .neq t50 (.int .i64 1) (fun t51 w =>
  s14_p5 K B1 t3 t4 t6 t7 t17 t18 t19 t51 w) w) w) w) w0) w0) w0) w0
def s14_p6 (K : Value → World → Prop) (B1 : List Value → World → Prop) (t3 t4 t6 t7 t9 t17 t18 t19 : Value) (w : World) : Prop := s14_p6_d K B1 t3 t4 t6 t7 t9 t17 t18 t19 (drw w) (drw w)
def s14_p6_den (K : Value → World → Prop) (M1 : (Nat → Value) → World → Prop) : (Nat → Value) → World → Prop := denL Tryz.prog [(cd (Tryz.f14.body.getD .skip) [1, 1, 1, 0, 1, 0, 0, 1, 1, 0, 0, 1, 1, 1, 1, 1, 0, 0])] (s14_p5_den K M1) (fun i => (bif Nat.beq i 1 then (s14_p2_den K M1) else (bif Nat.beq i 0 then (s14_p1_den K) else (fun _ _ => False)))) (s14_R K)
theorem s14_p6_ok (K : Value → World → Prop) (B1 : List Value → World → Prop) (s : Nat → Value) (w : World) (h : s14_p6 K B1 (s 3) (s 4) (s 6) (s 7) (s 9) (s 17) (s 18) (s 19) w) : Tr (s14_p6_den K (fun s w => B1 [s 3, s 4, s 17, s 18, s 19] w) s w) :=
  tr_draw (P := Tryz.prog) (ops := (ro (cd (Tryz.f14.body.getD .skip) [1, 1, 1, 0, 1, 0, 0, 1, 1, 0, 0, 1, 1, 1, 1, 1, 0, 0]))) (ms := [0, 1, 3, 7, 0, 31, 63, 127]) (cs := [0, 1, 2, 3, 4]) (N := (fun s w => s14_p5 K B1 (s 3) (s 4) (s 6) (s 7) (s 17) (s 18) (s 19) (s 51) w)) (N' := (s14_p5_den K (fun s w => B1 [s 3, s 4, s 17, s 18, s 19] w))) (s := s) (w := w) (p := s14_p6 K B1 (s 3) (s 4) (s 6) (s 7) (s 9) (s 17) (s 18) (s 19) w) (q := s14_p6_den K (fun s w => B1 [s 3, s 4, s 17, s 18, s 19] w) s w) (by kernel_rfl) (by kernel_rfl) (fun s w h => s14_p5_ok K B1 s w @h) (by kernel_rfl) (by kernel_rfl) @h
def s14_p7_d (K : Value → World → Prop) (B1 : List Value → World → Prop) (J : World → Prop) (t3 t4 t6 t7 t9 t17 t18 t19 : Value) (w0 w : World) : Prop :=
  fd 1 t7 (fun t37 _ =>
  Go.Sh.R.qw J (ld1 t37) (fun t38 =>
  boI .sub (.int .i64 (-1)) t38 (fun t39 _ =>
  fd 5 t7 (fun t40 _ =>
  Go.Sh.R.qw J (ld1 t40) (fun t41 =>
  fd 1 t9 (fun t42 _ =>
  fd 5 t9 (fun t43 _ =>
  st1 t42 t39 (fun w =>
  J w ∧
  st1 t43 t41 (fun w =>
  s14_p6 K B1 t3 t4 t6 t7 t9 t17 t18 t19 w) w) w) w0) w0)) w0) w0)) w0
def s14_p7 (K : Value → World → Prop) (B1 : List Value → World → Prop) (t3 t4 t6 t7 t9 t17 t18 t19 : Value) (w : World) : Prop := ∃ J : World → Prop, J (drw w) ∧ s14_p7_d K B1 J t3 t4 t6 t7 t9 t17 t18 t19 (drw w) (drw w)
def s14_p7_den (K : Value → World → Prop) (M1 : (Nat → Value) → World → Prop) : (Nat → Value) → World → Prop := denL Tryz.prog [(cd (Tryz.f14.body.getD .skip) [1, 1, 1, 0, 1, 0, 0, 1, 1, 0, 0, 1, 1, 1, 1, 0])] (s14_p6_den K M1) (fun i => (bif Nat.beq i 1 then (s14_p2_den K M1) else (bif Nat.beq i 0 then (s14_p1_den K) else (fun _ _ => False)))) (s14_R K)
theorem s14_p7_ok (K : Value → World → Prop) (B1 : List Value → World → Prop) (s : Nat → Value) (w : World) (h : s14_p7 K B1 (s 3) (s 4) (s 6) (s 7) (s 9) (s 17) (s 18) (s 19) w) : Tr (s14_p7_den K (fun s w => B1 [s 3, s 4, s 17, s 18, s 19] w) s w) :=
  Go.Sh.R.tr_drawR (P := Tryz.prog) (ops := (ro (cd (Tryz.f14.body.getD .skip) [1, 1, 1, 0, 1, 0, 0, 1, 1, 0, 0, 1, 1, 1, 1, 0]))) (ms := [0, 1, 3, 0, 8, 7, 39, 127, 255]) (cs := [0, 1, 2, 3, 4, 5, 7]) (N := (fun s w => s14_p6 K B1 (s 3) (s 4) (s 6) (s 7) (s 9) (s 17) (s 18) (s 19) w)) (N' := (s14_p6_den K (fun s w => B1 [s 3, s 4, s 17, s 18, s 19] w))) (s := s) (w := w) (p := fun J => s14_p7_d K B1 J (s 3) (s 4) (s 6) (s 7) (s 9) (s 17) (s 18) (s 19) (drw w) (drw w)) (q := s14_p7_den K (fun s w => B1 [s 3, s 4, s 17, s 18, s 19] w) s w) (by kernel_rfl) (by kernel_rfl) (fun s w h => s14_p6_ok K B1 s w @h) (by kernel_rfl) (by kernel_rfl) @h
def s14_p8 (K : Value → World → Prop) (B1 : List Value → World → Prop) (t3 t4 t17 t18 t19 : Value) (w : World) : Prop :=
  ixs 4 t17 t19 (fun t21 w =>
  ldn 4 t21 (fun t22 w =>
  nw 39 #[(.int .i64 0), (.slice none 0 0), (.int .i64 0), (.int .i64 0)] (fun t6 w =>
  stn 4 t6 t22 (fun w =>
  fd 1 t6 (fun t24 w =>
  ld1 t24 (fun t25 w =>
  cl Tryz.prog 28 #[t25] (fun t26 w =>
  exq t26 0 (fun t27 w =>
  exq t26 1 (fun t28 w =>
  nw 52 #[(.int .u8 0), (.int .i64 0), (.int .i64 0), (.int .i64 0), (.int .i64 0), (.int .i64 0), (.int .i64 0), (.slice none 0 0)] (fun t7 w =>
  stn 8 t7 t27 (fun w =>
  ldn 4 t6 (fun t29 w =>
  cl Tryz.prog 22 #[t29] (fun t30 w =>
  un .not t30 (fun t31 w =>
  gd t31 false (fun K w => K t28 w) (fun t33 w =>
  gd t31 false (boI .neq t33 (.int .i64 0)) (fun t34 w =>
  pk t31 (.bool true) t34 (fun t35 w =>
  ifb t35
  (s14_p2 K B1 t3 t4 t17 t18 t19 w)
  (ldn 8 t7 (fun t36 w =>
  nw 52 #[(.int .u8 0), (.int .i64 0), (.int .i64 0), (.int .i64 0), (.int .i64 0), (.int .i64 0), (.int .i64 0), (.slice none 0 0)] (fun t9 w =>
  stn 8 t9 t36 (fun w =>
  s14_p7 K B1 t3 t4 t6 t7 t9 t17 t18 t19 w) w) w) w)) w) w) w) w) w) w) w) w) w) w) w) w) w) w) w) w) w
def s14_p8_den (K : Value → World → Prop) (M1 : (Nat → Value) → World → Prop) : (Nat → Value) → World → Prop := denL Tryz.prog [(cd (Tryz.f14.body.getD .skip) [1, 1, 1, 0, 1, 0, 0, 1, 1, 0, 0, 0]), (cd (Tryz.f14.body.getD .skip) [1, 1, 1, 0, 1, 0, 0, 1, 1, 0, 0, 1, 0]), (cd (Tryz.f14.body.getD .skip) [1, 1, 1, 0, 1, 0, 0, 1, 1, 0, 0, 1, 1, 0, 0]), (cd (Tryz.f14.body.getD .skip) [1, 1, 1, 0, 1, 0, 0, 1, 1, 0, 0, 1, 1, 0, 1]), (cd (Tryz.f14.body.getD .skip) [1, 1, 1, 0, 1, 0, 0, 1, 1, 0, 0, 1, 1, 1, 0])] (s14_p7_den K M1) (fun i => (bif Nat.beq i 1 then (s14_p2_den K M1) else (bif Nat.beq i 0 then (s14_p1_den K) else (fun _ _ => False)))) (s14_R K)
theorem s14_p8_ok (K : Value → World → Prop) (B1 : List Value → World → Prop) (s : Nat → Value) (w : World) (h : s14_p8 K B1 (s 3) (s 4) (s 17) (s 18) (s 19) w) : Tr (s14_p8_den K (fun s w => B1 [s 3, s 4, s 17, s 18, s 19] w) s w) :=
  tr_simple (P := Tryz.prog) (codes := [(cd (Tryz.f14.body.getD .skip) [1, 1, 1, 0, 1, 0, 0, 1, 1, 0, 0, 0]), (cd (Tryz.f14.body.getD .skip) [1, 1, 1, 0, 1, 0, 0, 1, 1, 0, 0, 1, 0]), (cd (Tryz.f14.body.getD .skip) [1, 1, 1, 0, 1, 0, 0, 1, 1, 0, 0, 1, 1, 0, 0]), (cd (Tryz.f14.body.getD .skip) [1, 1, 1, 0, 1, 0, 0, 1, 1, 0, 0, 1, 1, 0, 1]), (cd (Tryz.f14.body.getD .skip) [1, 1, 1, 0, 1, 0, 0, 1, 1, 0, 0, 1, 1, 1, 0])]) (N := (fun s w => s14_p7 K B1 (s 3) (s 4) (s 6) (s 7) (s 9) (s 17) (s 18) (s 19) w)) (N' := (s14_p7_den K (fun s w => B1 [s 3, s 4, s 17, s 18, s 19] w))) (X := (fun i => (bif Nat.beq i 1 then (fun s w => s14_p2 K B1 (s 3) (s 4) (s 17) (s 18) (s 19) w) else (bif Nat.beq i 0 then (fun s w => s14_p1 K (s 3) (s 4) w) else (fun _ _ => False))))) (X' := (fun i => (bif Nat.beq i 1 then (s14_p2_den K (fun s w => B1 [s 3, s 4, s 17, s 18, s 19] w)) else (bif Nat.beq i 0 then (s14_p1_den K) else (fun _ _ => False))))) (R := s14_R K) (s := s) (w := w) (p := s14_p8 K B1 (s 3) (s 4) (s 17) (s 18) (s 19) w) (q := s14_p8_den K (fun s w => B1 [s 3, s 4, s 17, s 18, s 19] w) s w) (fun s w h => s14_p7_ok K B1 s w @h) (fun i => (tr_bif (fun s w h => s14_p2_ok K B1 s w @h) (tr_bif (fun s w h => s14_p1_ok K s w @h) tr_id))) (by kernel_rfl) (by kernel_rfl) @h
def s14_p9 (K : Value → World → Prop) (B1 : List Value → World → Prop) (t3 t4 t17 t18 t19 : Value) (w : World) : Prop :=
  boI .lss t19 t18 (fun t20 w =>
  ifb t20
  (s14_p8 K B1 t3 t4 t17 t18 t19 w)
  (s14_p1 K t3 t4 w)) w
def s14_p9_den (K : Value → World → Prop) (M1 : (Nat → Value) → World → Prop) : (Nat → Value) → World → Prop := denL Tryz.prog [(cd (Tryz.f14.body.getD .skip) [1, 1, 1, 0, 1, 0, 0, 0]), (cd (Tryz.f14.body.getD .skip) [1, 1, 1, 0, 1, 0, 0, 1, 0])] (s14_p8_den K M1) (fun i => (bif Nat.beq i 0 then (s14_p1_den K) else (fun _ _ => False))) (s14_R K)
theorem s14_p9_ok (K : Value → World → Prop) (B1 : List Value → World → Prop) (s : Nat → Value) (w : World) (h : s14_p9 K B1 (s 3) (s 4) (s 17) (s 18) (s 19) w) : Tr (s14_p9_den K (fun s w => B1 [s 3, s 4, s 17, s 18, s 19] w) s w) :=
  tr_simple (P := Tryz.prog) (codes := [(cd (Tryz.f14.body.getD .skip) [1, 1, 1, 0, 1, 0, 0, 0]), (cd (Tryz.f14.body.getD .skip) [1, 1, 1, 0, 1, 0, 0, 1, 0])]) (N := (fun s w => s14_p8 K B1 (s 3) (s 4) (s 17) (s 18) (s 19) w)) (N' := (s14_p8_den K (fun s w => B1 [s 3, s 4, s 17, s 18, s 19] w))) (X := (fun i => (bif Nat.beq i 0 then (fun s w => s14_p1 K (s 3) (s 4) w) else (fun _ _ => False)))) (X' := (fun i => (bif Nat.beq i 0 then (s14_p1_den K) else (fun _ _ => False)))) (R := s14_R K) (s := s) (w := w) (p := s14_p9 K B1 (s 3) (s 4) (s 17) (s 18) (s 19) w) (q := s14_p9_den K (fun s w => B1 [s 3, s 4, s 17, s 18, s 19] w) s w) (fun s w h => s14_p8_ok K B1 s w @h) (fun i => (tr_bif (fun s w h => s14_p1_ok K s w @h) tr_id)) (by kernel_rfl) (by kernel_rfl) @h
def s14_p10_F (K : Value → World → Prop) (B1 : List Value → World → Prop) (l : List Value) (w : World) : Prop :=
  match l with
  | [t3, t4, t17, t18, t19] => s14_p9 K B1 t3 t4 t17 t18 t19 w
  | _ => False
theorem s14_p10_Fe {K : Value → World → Prop} {B1 : List Value → World → Prop} {t3 t4 t17 t18 t19 : Value} {w : World} : s14_p10_F K B1 [t3, t4, t17, t18, t19] w = s14_p9 K B1 t3 t4 t17 t18 t19 w := by kernel_rfl
def s14_p10 (K : Value → World → Prop) (t3 t4 t17 t18 t19 : Value) (w : World) : Prop :=
  LoopL (s14_p10_F K) [t3, t4, t17, t18, t19] w
def s14_p10_den (K : Value → World → Prop) : (Nat → Value) → World → Prop := fun s w => LoopP (fun M1 s w => s14_p9_den K M1 s w) s w
theorem s14_p10_ok (K : Value → World → Prop) (s : Nat → Value) (w : World) (h : s14_p10 K (s 3) (s 4) (s 17) (s 18) (s 19) w) : Tr (s14_p10_den K s w) :=
  tr_loop (G := fun N' s w => s14_p9_den K N' s w) (F := s14_p10_F K) (sel := fun s => [s 3, s 4, s 17, s 18, s 19]) (s := s) (w := w) (p := s14_p10 K (s 3) (s 4) (s 17) (s 18) (s 19) w) (q := s14_p10_den K s w) (fun B s w h => s14_p9_ok K B s w @h) (by kernel_rfl) (by kernel_rfl) @h
def s14_p11 (K : Value → World → Prop) (t0 : Value) (w : World) : Prop :=
  cl Tryz.prog 17 #[t0] (fun t11 w =>
  un .not t11 (fun t12 w =>
  ifb t12
  (K (.bool true) w)
  (cl Tryz.prog 19 #[] (fun t13 w =>
  cl Tryz.prog 18 #[t13] (fun t14 w =>
  cl Tryz.prog 19 #[] (fun t15 w =>
  cl Tryz.prog 18 #[t15] (fun t16 w =>
  lnS t0 (fun t18 w =>
  s14_p10 K t14 t16 t0 t18 (.int .i64 0) w) w) w) w) w) w)) w) w
def s14_p11_den (K : Value → World → Prop) : (Nat → Value) → World → Prop := denL Tryz.prog [(cd (Tryz.f14.body.getD .skip) [0]), (cd (Tryz.f14.body.getD .skip) [1, 0, 0]), (cd (Tryz.f14.body.getD .skip) [1, 0, 1]), (cd (Tryz.f14.body.getD .skip) [1, 1, 0]), (cd (Tryz.f14.body.getD .skip) [1, 1, 1, 0, 0])] (s14_p10_den K) (fun i => (fun _ _ => False)) (s14_R K)
theorem s14_p11_ok (K : Value → World → Prop) (s : Nat → Value) (w : World) (h : s14_p11 K (s 0) w) : Tr (s14_p11_den K s w) :=
  tr_simple (P := Tryz.prog) (codes := [(cd (Tryz.f14.body.getD .skip) [0]), (cd (Tryz.f14.body.getD .skip) [1, 0, 0]), (cd (Tryz.f14.body.getD .skip) [1, 0, 1]), (cd (Tryz.f14.body.getD .skip) [1, 1, 0]), (cd (Tryz.f14.body.getD .skip) [1, 1, 1, 0, 0])]) (N := (fun s w => s14_p10 K (s 3) (s 4) (s 17) (s 18) (s 19) w)) (N' := (s14_p10_den K)) (X := (fun i => (fun _ _ => False))) (X' := (fun i => (fun _ _ => False))) (R := s14_R K) (s := s) (w := w) (p := s14_p11 K (s 0) w) (q := s14_p11_den K s w) (fun s w h => s14_p10_ok K s w @h) (fun i => tr_id) (by kernel_rfl) (by kernel_rfl) @h
/-- the call, from the text -/
theorem c14 (t0 : Value) {K : Value → World → Prop} {w : World} (h : s14_p11 K t0 w) : cl Tryz.prog 14 #[t0] K w :=
  calls_of_tr (c := (Tryz.f14.body.getD .skip)) (fn := Tryz.f14) (q := s14_p11_den K (st0 #[t0]) w) Tryz.func14 (by kernel_rfl) (by kernel_rfl) (Nat.le_of_ble_eq_true (by kernel_rfl)) (by kernel_rfl) (by kernel_rfl) (s14_p11_ok K (st0 #[t0]) w @h)

end Go.Proofs.Qxb6500896aGreat
