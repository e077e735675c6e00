import Derived.Test.Qxb6500896aGreatProg
import Derived.Test.Qxb6500896aGreatShMix3
namespace Go.Proofs.Qxb6500896aGreat
open Go.Sh Go.RowKit
set_option linter.unusedVariables false
set_option maxRecDepth 100000

/-! ### function 233 : (*e2e.standbym.Lines).Join -/
def s233R_R (K : Value → World → Prop) (s : Nat → Value) (w : World) : Prop := retv Tryz.prog s Tryz.f233.results.toList (fun vs => K (pack vs) w) w
def s233R_p1 (K : Value → World → Prop) (t10 t11 t12 : Value) (w : World) : Prop :=
  K (.tuple #[t10, t11, t12]) w
def s233R_p1_den (K : Value → World → Prop) : (Nat → Value) → World → Prop := denL Tryz.prog [(cd (Tryz.f233.body.getD .skip) [1, 1, 1, 1, 1, 1])] (fun _ _ => False) (fun i => (fun _ _ => False)) (s233R_R K)
theorem s233R_p1_ok (K : Value → World → Prop) (s : Nat → Value) (w : World) (h : s233R_p1 K (s 10) (s 11) (s 12) w) : Tr (s233R_p1_den K s w) :=
  tr_simple (P := Tryz.prog) (codes := [(cd (Tryz.f233.body.getD .skip) [1, 1, 1, 1, 1, 1])]) (N := (fun _ _ => False)) (N' := (fun _ _ => False)) (X := (fun i => (fun _ _ => False))) (X' := (fun i => (fun _ _ => False))) (R := s233R_R K) (s := s) (w := w) (p := s233R_p1 K (s 10) (s 11) (s 12) w) (q := s233R_p1_den K s w) tr_id (fun i => tr_id) (by kernel_rfl) (by kernel_rfl) @h
def s233R_p2_d (K : Value → World → Prop) (J : World → Prop) (t0 t2 t10 : Value) (w0 w : World) : Prop :=
  nck t0 (fun t56 _ =>
  fd 14 t56 (fun t57 _ =>
  Go.Sh.R.qw J (ld1 t57) (fun t58 =>
  ixs 1 t58 t2 (fun t60 _ =>
  Go.Sh.R.qw J (ld1 t60) (fun t61 =>
  lnS t61 (fun t62 _ =>
  J w ∧
  J w ∧
  s233R_p1 K t10 t62 (.int .i64 0) w) w0)) w0)) w0) w0
def s233R_p2 (K : Value → World → Prop) (t0 t2 t10 : Value) (w : World) : Prop := ∃ J : World → Prop, J (drw w) ∧ s233R_p2_d K J t0 t2 t10 (drw w) (drw w)
def s233R_p2_den (K : Value → World → Prop) : (Nat → Value) → World → Prop := denL Tryz.prog [(cd (Tryz.f233.body.getD .skip) [1, 1, 1, 1, 1, 0])] (s233R_p1_den K) (fun i => (fun _ _ => False)) (s233R_R K)
theorem s233R_p2_ok (K : Value → World → Prop) (s : Nat → Value) (w : World) (h : s233R_p2 K (s 0) (s 2) (s 10) w) : Tr (s233R_p2_den K s w) :=
  Go.Sh.R.tr_drawR (P := Tryz.prog) (ops := (ro (cd (Tryz.f233.body.getD .skip) [1, 1, 1, 1, 1, 0]))) (ms := [0, 0, 2, 6, 14, 0, 62, 126, 254, 1, 1023, 2047]) (cs := [1, 2, 3, 4, 5, 6, 7, 8, 10, 11]) (N := (fun s w => s233R_p1 K (s 10) (s 11) (s 12) w)) (N' := (s233R_p1_den K)) (s := s) (w := w) (p := fun J => s233R_p2_d K J (s 0) (s 2) (s 10) (drw w) (drw w)) (q := s233R_p2_den K s w) (by kernel_rfl) (by kernel_rfl) (fun s w h => s233R_p1_ok K s w @h) (by kernel_rfl) (by kernel_rfl) @h
def s233R_p3_d (K : Value → World → Prop) (J : World → Prop) (t0 t2 t10 : Value) (w0 w : World) : Prop :=
  nck t0 (fun t39 _ =>
  fd 14 t39 (fun t40 _ =>
  Go.Sh.R.qw J (ld1 t40) (fun t41 =>
  nck t0 (fun t44 _ =>
  fd 14 t44 (fun t45 _ =>
  Go.Sh.R.qw J (ld1 t45) (fun t46 =>
  ixs 1 t46 t2 (fun t48 _ =>
  Go.Sh.R.qw J (ld1 t48) (fun t49 =>
  ixs 1 t41 t2 (fun t53 _ =>
  bsq 3 [(.int .i64 0)] 1 [(some (0, 1), t10)] (fun t51 w =>
  J w ∧
  apq 3 [(.int .i64 0)] 8 t49 t51 (fun t52 w =>
  J w ∧
  st1 t53 t52 (fun w =>
  s233R_p2 K t0 t2 t10 w) w) w) w) w0)) w0)) w0) w0)) w0) w0
def s233R_p3 (K : Value → World → Prop) (t0 t2 t10 : Value) (w : World) : Prop := ∃ J : World → Prop, J (drw w) ∧ s233R_p3_d K J t0 t2 t10 (drw w) (drw w)
def s233R_p3_den (K : Value → World → Prop) : (Nat → Value) → World → Prop := denL Tryz.prog [(cd (Tryz.f233.body.getD .skip) [1, 1, 1, 1, 0])] (s233R_p2_den K) (fun i => (fun _ _ => False)) (s233R_R K)
theorem s233R_p3_ok (K : Value → World → Prop) (s : Nat → Value) (w : World) (h : s233R_p3 K (s 0) (s 2) (s 10) w) : Tr (s233R_p3_den K s w) :=
  Go.Sh.R.tr_drawR (P := Tryz.prog) (ops := (ro (cd (Tryz.f233.body.getD .skip) [1, 1, 1, 1, 0]))) (ms := [0, 1, 3, 7, 0, 0, 32, 96, 224, 0, 992, 2016, 0, 4096, 16352, 32767, 65535]) (cs := [0, 1, 2, 3, 4, 5, 6, 7, 8, 9, 10, 11, 12, 15]) (N := (fun s w => s233R_p2 K (s 0) (s 2) (s 10) w)) (N' := (s233R_p2_den K)) (s := s) (w := w) (p := fun J => s233R_p3_d K J (s 0) (s 2) (s 10) (drw w) (drw w)) (q := s233R_p3_den K s w) (by kernel_rfl) (by kernel_rfl) (fun s w h => s233R_p2_ok K s w @h) (by kernel_rfl) (by kernel_rfl) @h
def s233R_p4 (K : Value → World → Prop) (t0 t1 t2 t3 t4 t26 : Value) (w : World) : Prop :=
  ifb t26
  (K (.tuple #[(.int .i64 0), (.int .i64 0), (.int .i64 10)]) w)
  (cl Tryz.prog 241 #[t1, t2, t3, t4] (fun t32 w =>
  exq t32 0 (fun t33 w =>
  exq t32 1 (fun t34 w =>
  boI .neq t34 (.int .i64 0) (fun t36 w =>
  ifb t36
  (K (.tuple #[(.int .i64 0), (.int .i64 0), t34]) w)
  (s233R_p3 K t0 t2 t33 w)) w) w) w) w)
def s233R_p4_den (K : Value → World → Prop) : (Nat → Value) → World → Prop := denL Tryz.prog [(cd (Tryz.f233.body.getD .skip) [1, 0, 1]), (cd (Tryz.f233.body.getD .skip) [1, 1, 0]), (cd (Tryz.f233.body.getD .skip) [1, 1, 1, 0, 0]), (cd (Tryz.f233.body.getD .skip) [1, 1, 1, 0, 1])] (s233R_p3_den K) (fun i => (fun _ _ => False)) (s233R_R K)
theorem s233R_p4_ok (K : Value → World → Prop) (s : Nat → Value) (w : World) (h : s233R_p4 K (s 0) (s 1) (s 2) (s 3) (s 4) (s 26) w) : Tr (s233R_p4_den K s w) :=
  tr_simple (P := Tryz.prog) (codes := [(cd (Tryz.f233.body.getD .skip) [1, 0, 1]), (cd (Tryz.f233.body.getD .skip) [1, 1, 0]), (cd (Tryz.f233.body.getD .skip) [1, 1, 1, 0, 0]), (cd (Tryz.f233.body.getD .skip) [1, 1, 1, 0, 1])]) (N := (fun s w => s233R_p3 K (s 0) (s 2) (s 10) w)) (N' := (s233R_p3_den K)) (X := (fun i => (fun _ _ => False))) (X' := (fun i => (fun _ _ => False))) (R := s233R_R K) (s := s) (w := w) (p := s233R_p4 K (s 0) (s 1) (s 2) (s 3) (s 4) (s 26) w) (q := s233R_p4_den K s w) (fun s w h => s233R_p3_ok K s w @h) (fun i => tr_id) (by kernel_rfl) (by kernel_rfl) @h
def s233R_p5_d (K : Value → World → Prop) (t0 t1 t2 t3 t4 : Value) (w0 w : World) : Prop :=
  nck t0 (fun t14 _ =>
  fd 14 t14 (fun t15 _ =>
  ld1 t15 (fun t16 _ =>
  ixs 1 t16 t2 (fun t18 _ =>
  ld1 t18 (fun t19 _ =>
  lnS t19 (fun t20 _ =>
  nck t0 (fun t22 _ =>
  fd 0 t22 (fun t23 _ =>
  fd 11 t23 (fun t24 _ =>
  ld1 t24 (fun t25 _ =>
  boI .geq t20 t25 (fun t26 _ =>
  s233R_p4 K t0 t1 t2 t3 t4 t26 w) w0) w0) w0) w0) w0) w0) w0) w0) w0) w0) w0
def s233R_p5 (K : Value → World → Prop) (t0 t1 t2 t3 t4 : Value) (w : World) : Prop := s233R_p5_d K t0 t1 t2 t3 t4 (drw w) (drw w)
def s233R_p5_den (K : Value → World → Prop) : (Nat → Value) → World → Prop := denL Tryz.prog [(cd (Tryz.f233.body.getD .skip) [1, 0, 0])] (s233R_p4_den K) (fun i => (fun _ _ => False)) (s233R_R K)
theorem s233R_p5_ok (K : Value → World → Prop) (s : Nat → Value) (w : World) (h : s233R_p5 K (s 0) (s 1) (s 2) (s 3) (s 4) w) : Tr (s233R_p5_den K s w) :=
  tr_draw (P := Tryz.prog) (ops := (ro (cd (Tryz.f233.body.getD .skip) [1, 0, 0]))) (ms := [0, 1, 3, 7, 0, 31, 63, 127, 0, 256, 768, 1792, 3840, 8191]) (cs := [0, 1, 2, 3, 4, 5, 6, 7, 8, 9, 10, 11, 12, 13]) (N := (fun s w => s233R_p4 K (s 0) (s 1) (s 2) (s 3) (s 4) (s 26) w)) (N' := (s233R_p4_den K)) (s := s) (w := w) (p := s233R_p5 K (s 0) (s 1) (s 2) (s 3) (s 4) w) (q := s233R_p5_den K s w) (by kernel_rfl) (by kernel_rfl) (fun s w h => s233R_p4_ok K s w @h) (by kernel_rfl) (by kernel_rfl) @h
def s233R_p6 (K : Value → World → Prop) (t0 t1 t2 t3 t4 : Value) (w : World) : Prop :=
  s233R_p5 K t0 t1 t2 t3 t4 w
def s233R_p6_den (K : Value → World → Prop) : (Nat → Value) → World → Prop := denL Tryz.prog [(cd (Tryz.f233.body.getD .skip) [0])] (s233R_p5_den K) (fun i => (fun _ _ => False)) (s233R_R K)
theorem s233R_p6_ok (K : Value → World → Prop) (s : Nat → Value) (w : World) (h : s233R_p6 K (s 0) (s 1) (s 2) (s 3) (s 4) w) : Tr (s233R_p6_den K s w) :=
  tr_simple (P := Tryz.prog) (codes := [(cd (Tryz.f233.body.getD .skip) [0])]) (N := (fun s w => s233R_p5 K (s 0) (s 1) (s 2) (s 3) (s 4) w)) (N' := (s233R_p5_den K)) (X := (fun i => (fun _ _ => False))) (X' := (fun i => (fun _ _ => False))) (R := s233R_R K) (s := s) (w := w) (p := s233R_p6 K (s 0) (s 1) (s 2) (s 3) (s 4) w) (q := s233R_p6_den K s w) (fun s w h => s233R_p5_ok K s w @h) (fun i => tr_id) (by kernel_rfl) (by kernel_rfl) @h
/-- the call, from the text -/
theorem c233R (t0 t1 t2 t3 t4 : Value) {K : Value → World → Prop} {w : World} (h : s233R_p6 K t0 t1 t2 t3 t4 w) : cl Tryz.prog 233 #[t0, t1, t2, t3, t4] K w :=
  calls_of_tr (c := (Tryz.f233.body.getD .skip)) (fn := Tryz.f233) (q := s233R_p6_den K (st0 #[t0, t1, t2, t3, t4]) w) Tryz.func233 (by kernel_rfl) (by kernel_rfl) (Nat.le_of_ble_eq_true (by kernel_rfl)) (by kernel_rfl) (by kernel_rfl) (s233R_p6_ok K (st0 #[t0, t1, t2, t3, t4]) w @h)

/-! ### function 172 : e2e.engine.decodeImage -/
def s172R_R (K : Value → World → Prop) (s : Nat → Value) (w : World) : Prop := retv Tryz.prog s Tryz.f172.results.toList (fun vs => K (pack vs) w) w
def s172R_p1 (K : Value → World → Prop) (t2 t4 t5 : Value) (w : World) : Prop :=
  cl Tryz.prog 108 #[t4] (fun t35 w =>
  un .not t35 (fun t36 w =>
  ifb t36
  (bdq [(.int .i64 0), (.int .i64 0), (.int .i64 0), (.slice none 0 0), (.slice none 0 0)] [] (fun t37 w =>
  stn 5 t2 t37 (fun w =>
  ldn 5 t2 (fun r0 _ =>
  K (.tuple #[r0, (.bool false)]) w) w) w) w)
  (ldn 5 t5 (fun t38 w =>
  stn 5 t2 t38 (fun w =>
  ldn 5 t2 (fun r0 _ =>
  K (.tuple #[r0, (.bool true)]) w) w) w) w)) w) w
def s172R_p1_den (K : Value → World → Prop) : (Nat → Value) → World → Prop := denL Tryz.prog [(cd (Tryz.f172.body.getD .skip) [1, 1, 1, 1, 1, 1, 1, 1, 1, 1, 0, 0]), (cd (Tryz.f172.body.getD .skip) [1, 1, 1, 1, 1, 1, 1, 1, 1, 1, 0, 1]), (cd (Tryz.f172.body.getD .skip) [1, 1, 1, 1, 1, 1, 1, 1, 1, 1, 1, 0]), (cd (Tryz.f172.body.getD .skip) [1, 1, 1, 1, 1, 1, 1, 1, 1, 1, 1, 1])] (fun _ _ => False) (fun i => (fun _ _ => False)) (s172R_R K)
theorem s172R_p1_ok (K : Value → World → Prop) (s : Nat → Value) (w : World) (h : s172R_p1 K (s 2) (s 4) (s 5) w) : Tr (s172R_p1_den K s w) :=
  tr_simple (P := Tryz.prog) (codes := [(cd (Tryz.f172.body.getD .skip) [1, 1, 1, 1, 1, 1, 1, 1, 1, 1, 0, 0]), (cd (Tryz.f172.body.getD .skip) [1, 1, 1, 1, 1, 1, 1, 1, 1, 1, 0, 1]), (cd (Tryz.f172.body.getD .skip) [1, 1, 1, 1, 1, 1, 1, 1, 1, 1, 1, 0]), (cd (Tryz.f172.body.getD .skip) [1, 1, 1, 1, 1, 1, 1, 1, 1, 1, 1, 1])]) (N := (fun _ _ => False)) (N' := (fun _ _ => False)) (X := (fun i => (fun _ _ => False))) (X' := (fun i => (fun _ _ => False))) (R := s172R_R K) (s := s) (w := w) (p := s172R_p1 K (s 2) (s 4) (s 5) w) (q := s172R_p1_den K s w) tr_id (fun i => tr_id) (by kernel_rfl) (by kernel_rfl) @h
def s172R_p2 (K : Value → World → Prop) (B1 : List Value → World → Prop) (t2 t4 t5 t25 t26 : Value) (w : World) : Prop :=
  boI .add t26 (.int .i64 1) (fun t34 w =>
  B1 [t2, t4, t5, t25, t34] w) w
def s172R_p2_den (K : Value → World → Prop) (M1 : (Nat → Value) → World → Prop) : (Nat → Value) → World → Prop := denL Tryz.prog [(cd (Tryz.f172.body.getD .skip) [1, 1, 1, 1, 1, 1, 1, 1, 1, 0, 1, 0, 0, 1, 1, 1])] M1 (fun i => (bif Nat.beq i 0 then (s172R_p1_den K) else (fun _ _ => False))) (s172R_R K)
theorem s172R_p2_ok (K : Value → World → Prop) (B1 : List Value → World → Prop) (s : Nat → Value) (w : World) (h : s172R_p2 K B1 (s 2) (s 4) (s 5) (s 25) (s 26) w) : Tr (s172R_p2_den K (fun s w => B1 [s 2, s 4, s 5, s 25, s 26] w) s w) :=
  tr_simple (P := Tryz.prog) (codes := [(cd (Tryz.f172.body.getD .skip) [1, 1, 1, 1, 1, 1, 1, 1, 1, 0, 1, 0, 0, 1, 1, 1])]) (N := (fun s w => B1 [s 2, s 4, s 5, s 25, s 26] w)) (N' := (fun s w => B1 [s 2, s 4, s 5, s 25, s 26] w)) (X := (fun i => (bif Nat.beq i 0 then (fun s w => s172R_p1 K (s 2) (s 4) (s 5) w) else (fun _ _ => False)))) (X' := (fun i => (bif Nat.beq i 0 then (s172R_p1_den K) else (fun _ _ => False)))) (R := s172R_R K) (s := s) (w := w) (p := s172R_p2 K B1 (s 2) (s 4) (s 5) (s 25) (s 26) w) (q := s172R_p2_den K (fun s w => B1 [s 2, s 4, s 5, s 25, s 26] w) s w) tr_id (fun i => (tr_bif (fun s w h => s172R_p1_ok K s w @h) tr_id)) (by kernel_rfl) (by kernel_rfl) @h
def s172R_p3_d (K : Value → World → Prop) (B1 : List Value → World → Prop) (J : World → Prop) (t2 t4 t5 t6 t25 t26 : Value) (w0 w : World) : Prop :=
  fd 4 t5 (fun t29 _ =>
  Go.Sh.R.qw J (ld1 t29) (fun t30 =>
  ixs 1 t30 t6 (fun t33 _ =>
  cl Tryz.prog 135 #[t4] (fun t32 w =>
  J w ∧
  st1 t33 t32 (fun w =>
  s172R_p2 K B1 t2 t4 t5 t25 t26 w) w) w) w0)) w0
def s172R_p3 (K : Value → World → Prop) (B1 : List Value → World → Prop) (t2 t4 t5 t6 t25 t26 : Value) (w : World) : Prop := ∃ J : World → Prop, J (drw w) ∧ s172R_p3_d K B1 J t2 t4 t5 t6 t25 t26 (drw w) (drw w)
def s172R_p3_den (K : Value → World → Prop) (M1 : (Nat → Value) → World → Prop) : (Nat → Value) → World → Prop := denL Tryz.prog [(cd (Tryz.f172.body.getD .skip) [1, 1, 1, 1, 1, 1, 1, 1, 1, 0, 1, 0, 0, 1, 1, 0, 0, 1])] (s172R_p2_den K M1) (fun i => (bif Nat.beq i 1 then (s172R_p2_den K M1) else (bif Nat.beq i 0 then (s172R_p1_den K) else (fun _ _ => False)))) (s172R_R K)
theorem s172R_p3_ok (K : Value → World → Prop) (B1 : List Value → World → Prop) (s : Nat → Value) (w : World) (h : s172R_p3 K B1 (s 2) (s 4) (s 5) (s 6) (s 25) (s 26) w) : Tr (s172R_p3_den K (fun s w => B1 [s 2, s 4, s 5, s 25, s 26] w) s w) :=
  Go.Sh.R.tr_drawR (P := Tryz.prog) (ops := (ro (cd (Tryz.f172.body.getD .skip) [1, 1, 1, 1, 1, 1, 1, 1, 1, 0, 1, 0, 0, 1, 1, 0, 0, 1]))) (ms := [0, 1, 0, 0, 15, 31]) (cs := [0, 1, 2, 4]) (N := (fun s w => s172R_p2 K B1 (s 2) (s 4) (s 5) (s 25) (s 26) w)) (N' := (s172R_p2_den K (fun s w => B1 [s 2, s 4, s 5, s 25, s 26] w))) (s := s) (w := w) (p := fun J => s172R_p3_d K B1 J (s 2) (s 4) (s 5) (s 6) (s 25) (s 26) (drw w) (drw w)) (q := s172R_p3_den K (fun s w => B1 [s 2, s 4, s 5, s 25, s 26] w) s w) (by kernel_rfl) (by kernel_rfl) (fun s w h => s172R_p2_ok K B1 s w @h) (by kernel_rfl) (by kernel_rfl) @h
def s172R_p4 (K : Value → World → Prop) (B1 : List Value → World → Prop) (t2 t4 t5 t25 t26 : Value) (w : World) : Prop :=
  s172R_p3 K B1 t2 t4 t5 t26 t25 t26 w
def s172R_p4_den (K : Value → World → Prop) (M1 : (Nat → Value) → World → Prop) : (Nat → Value) → World → Prop := denL Tryz.prog [(cd (Tryz.f172.body.getD .skip) [1, 1, 1, 1, 1, 1, 1, 1, 1, 0, 1, 0, 0, 1, 1, 0, 0, 0])] (s172R_p3_den K M1) (fun i => (bif Nat.beq i 1 then (s172R_p2_den K M1) else (bif Nat.beq i 0 then (s172R_p1_den K) else (fun _ _ => False)))) (s172R_R K)
theorem s172R_p4_ok (K : Value → World → Prop) (B1 : List Value → World → Prop) (s : Nat → Value) (w : World) (h : s172R_p4 K B1 (s 2) (s 4) (s 5) (s 25) (s 26) w) : Tr (s172R_p4_den K (fun s w => B1 [s 2, s 4, s 5, s 25, s 26] w) s w) :=
  tr_simple (P := Tryz.prog) (codes := [(cd (Tryz.f172.body.getD .skip) [1, 1, 1, 1, 1, 1, 1, 1, 1, 0, 1, 0, 0, 1, 1, 0, 0, 0])]) (N := (fun s w => s172R_p3 K B1 (s 2) (s 4) (s 5) (s 6) (s 25) (s 26) w)) (N' := (s172R_p3_den K (fun s w => B1 [s 2, s 4, s 5, s 25, s 26] w))) (X := (fun i => (bif Nat.beq i 1 then (fun s w => s172R_p2 K B1 (s 2) (s 4) (s 5) (s 25) (s 26) w) else (bif Nat.beq i 0 then (fun s w => s172R_p1 K (s 2) (s 4) (s 5) w) else (fun _ _ => False))))) (X' := (fun i => (bif Nat.beq i 1 then (s172R_p2_den K (fun s w => B1 [s 2, s 4, s 5, s 25, s 26] w)) else (bif Nat.beq i 0 then (s172R_p1_den K) else (fun _ _ => False))))) (R := s172R_R K) (s := s) (w := w) (p := s172R_p4 K B1 (s 2) (s 4) (s 5) (s 25) (s 26) w) (q := s172R_p4_den K (fun s w => B1 [s 2, s 4, s 5, s 25, s 26] w) s w) (fun s w h => s172R_p3_ok K B1 s w @h) (fun i => (tr_bif (fun s w h => s172R_p2_ok K B1 s w @h) (tr_bif (fun s w h => s172R_p1_ok K s w @h) tr_id))) (by kernel_rfl) (by kernel_rfl) @h
def s172R_p5 (K : Value → World → Prop) (B1 : List Value → World → Prop) (t2 t4 t5 t25 t26 : Value) (w : World) : Prop :=
  boI .lss t26 t25 (fun t27 w =>
  ifb t27
  (s172R_p4 K B1 t2 t4 t5 t25 t26 w)
  (s172R_p1 K t2 t4 t5 w)) w
def s172R_p5_den (K : Value → World → Prop) (M1 : (Nat → Value) → World → Prop) : (Nat → Value) → World → Prop := denL Tryz.prog [(cd (Tryz.f172.body.getD .skip) [1, 1, 1, 1, 1, 1, 1, 1, 1, 0, 1, 0, 0, 0]), (cd (Tryz.f172.body.getD .skip) [1, 1, 1, 1, 1, 1, 1, 1, 1, 0, 1, 0, 0, 1, 0])] (s172R_p4_den K M1) (fun i => (bif Nat.beq i 0 then (s172R_p1_den K) else (fun _ _ => False))) (s172R_R K)
theorem s172R_p5_ok (K : Value → World → Prop) (B1 : List Value → World → Prop) (s : Nat → Value) (w : World) (h : s172R_p5 K B1 (s 2) (s 4) (s 5) (s 25) (s 26) w) : Tr (s172R_p5_den K (fun s w => B1 [s 2, s 4, s 5, s 25, s 26] w) s w) :=
  tr_simple (P := Tryz.prog) (codes := [(cd (Tryz.f172.body.getD .skip) [1, 1, 1, 1, 1, 1, 1, 1, 1, 0, 1, 0, 0, 0]), (cd (Tryz.f172.body.getD .skip) [1, 1, 1, 1, 1, 1, 1, 1, 1, 0, 1, 0, 0, 1, 0])]) (N := (fun s w => s172R_p4 K B1 (s 2) (s 4) (s 5) (s 25) (s 26) w)) (N' := (s172R_p4_den K (fun s w => B1 [s 2, s 4, s 5, s 25, s 26] w))) (X := (fun i => (bif Nat.beq i 0 then (fun s w => s172R_p1 K (s 2) (s 4) (s 5) w) else (fun _ _ => False)))) (X' := (fun i => (bif Nat.beq i 0 then (s172R_p1_den K) else (fun _ _ => False)))) (R := s172R_R K) (s := s) (w := w) (p := s172R_p5 K B1 (s 2) (s 4) (s 5) (s 25) (s 26) w) (q := s172R_p5_den K (fun s w => B1 [s 2, s 4, s 5, s 25, s 26] w) s w) (fun s w h => s172R_p4_ok K B1 s w @h) (fun i => (tr_bif (fun s w h => s172R_p1_ok K s w @h) tr_id)) (by kernel_rfl) (by kernel_rfl) @h
def s172R_p6_F (K : Value → World → Prop) (B1 : List Value → World → Prop) (l : List Value) (w : World) : Prop :=
  match l with
  | [t2, t4, t5, t25, t26] => s172R_p5 K B1 t2 t4 t5 t25 t26 w
  | _ => False
theorem s172R_p6_Fe {K : Value → World → Prop} {B1 : List Value → World → Prop} {t2 t4 t5 t25 t26 : Value} {w : World} : s172R_p6_F K B1 [t2, t4, t5, t25, t26] w = s172R_p5 K B1 t2 t4 t5 t25 t26 w := by kernel_rfl
def s172R_p6 (K : Value → World → Prop) (t2 t4 t5 t25 t26 : Value) (w : World) : Prop :=
  LoopL (s172R_p6_F K) [t2, t4, t5, t25, t26] w
def s172R_p6_den (K : Value → World → Prop) : (Nat → Value) → World → Prop := fun s w => LoopP (fun M1 s w => s172R_p5_den K M1 s w) s w
theorem s172R_p6_ok (K : Value → World → Prop) (s : Nat → Value) (w : World) (h : s172R_p6 K (s 2) (s 4) (s 5) (s 25) (s 26) w) : Tr (s172R_p6_den K s w) :=
  tr_loop (G := fun N' s w => s172R_p5_den K N' s w) (F := s172R_p6_F K) (sel := fun s => [s 2, s 4, s 5, s 25, s 26]) (s := s) (w := w) (p := s172R_p6 K (s 2) (s 4) (s 5) (s 25) (s 26) w) (q := s172R_p6_den K s w) (fun B s w h => s172R_p5_ok K B s w @h) (by kernel_rfl) (by kernel_rfl) @h
def s172R_p7 (K : Value → World → Prop) (t0 : Value) (w : World) : Prop :=
  nw 152 #[(.int .i64 0), (.int .i64 0), (.int .i64 0), (.slice none 0 0), (.slice none 0 0)] (fun t2 w =>
  bdq [(.slice none 0 0), (.int .i64 0), (.bool false)] [(some (0, 1), t0)] (fun t8 w =>
  nw 139 #[(.slice none 0 0), (.int .i64 0), (.bool false)] (fun t4 w =>
  stn 3 t4 t8 (fun w =>
  cl Tryz.prog 104 #[t4] (fun t9 w =>
  boI .neq t9 (.int .u8 1) (fun t10 w =>
  ifb t10
  (bdq [(.int .i64 0), (.int .i64 0), (.int .i64 0), (.slice none 0 0), (.slice none 0 0)] [] (fun t11 w =>
  stn 5 t2 t11 (fun w =>
  ldn 5 t2 (fun r0 _ =>
  K (.tuple #[r0, (.bool false)]) w) w) w) w)
  (nw 152 #[(.int .i64 0), (.int .i64 0), (.int .i64 0), (.slice none 0 0), (.slice none 0 0)] (fun t5 w =>
  cl Tryz.prog 105 #[t4] (fun t12 w =>
  fd 0 t5 (fun t13 w =>
  st1 t13 t12 (fun w =>
  cl Tryz.prog 105 #[t4] (fun t14 w =>
  fd 1 t5 (fun t15 w =>
  st1 t15 t14 (fun w =>
  cl Tryz.prog 105 #[t4] (fun t16 w =>
  fd 2 t5 (fun t17 w =>
  st1 t17 t16 (fun w =>
  cl Tryz.prog 134 #[t4] (fun t18 w =>
  fd 3 t5 (fun t19 w =>
  st1 t19 t18 (fun w =>
  cl Tryz.prog 181 #[t4, (.int .i64 1)] (fun t20 w =>
  mks 79 [(.slice none 0 0)] 24 t20 t20 (fun t21 w =>
  fd 4 t5 (fun t22 w =>
  st1 t22 t21 (fun w =>
  fd 4 t5 (fun t23 w =>
  ld1 t23 (fun t24 w =>
  lnS t24 (fun t25 w =>
  s172R_p6 K t2 t4 t5 t25 (.int .i64 0) w) w) w) w) w) w) w) w) w) w) w) w) w) w) w) w) w) w) w) w) w)) w) w) w) w) w) w
def s172R_p7_den (K : Value → World → Prop) : (Nat → Value) → World → Prop := denL Tryz.prog [(cd (Tryz.f172.body.getD .skip) [0]), (cd (Tryz.f172.body.getD .skip) [1, 0]), (cd (Tryz.f172.body.getD .skip) [1, 1, 0, 0]), (cd (Tryz.f172.body.getD .skip) [1, 1, 0, 1]), (cd (Tryz.f172.body.getD .skip) [1, 1, 1, 0]), (cd (Tryz.f172.body.getD .skip) [1, 1, 1, 1, 0]), (cd (Tryz.f172.body.getD .skip) [1, 1, 1, 1, 1, 0]), (cd (Tryz.f172.body.getD .skip) [1, 1, 1, 1, 1, 1, 0]), (cd (Tryz.f172.body.getD .skip) [1, 1, 1, 1, 1, 1, 1, 0]), (cd (Tryz.f172.body.getD .skip) [1, 1, 1, 1, 1, 1, 1, 1, 0]), (cd (Tryz.f172.body.getD .skip) [1, 1, 1, 1, 1, 1, 1, 1, 1, 0, 0])] (s172R_p6_den K) (fun i => (fun _ _ => False)) (s172R_R K)
theorem s172R_p7_ok (K : Value → World → Prop) (s : Nat → Value) (w : World) (h : s172R_p7 K (s 0) w) : Tr (s172R_p7_den K s w) :=
  tr_simple (P := Tryz.prog) (codes := [(cd (Tryz.f172.body.getD .skip) [0]), (cd (Tryz.f172.body.getD .skip) [1, 0]), (cd (Tryz.f172.body.getD .skip) [1, 1, 0, 0]), (cd (Tryz.f172.body.getD .skip) [1, 1, 0, 1]), (cd (Tryz.f172.body.getD .skip) [1, 1, 1, 0]), (cd (Tryz.f172.body.getD .skip) [1, 1, 1, 1, 0]), (cd (Tryz.f172.body.getD .skip) [1, 1, 1, 1, 1, 0]), (cd (Tryz.f172.body.getD .skip) [1, 1, 1, 1, 1, 1, 0]), (cd (Tryz.f172.body.getD .skip) [1, 1, 1, 1, 1, 1, 1, 0]), (cd (Tryz.f172.body.getD .skip) [1, 1, 1, 1, 1, 1, 1, 1, 0]), (cd (Tryz.f172.body.getD .skip) [1, 1, 1, 1, 1, 1, 1, 1, 1, 0, 0])]) (N := (fun s w => s172R_p6 K (s 2) (s 4) (s 5) (s 25) (s 26) w)) (N' := (s172R_p6_den K)) (X := (fun i => (fun _ _ => False))) (X' := (fun i => (fun _ _ => False))) (R := s172R_R K) (s := s) (w := w) (p := s172R_p7 K (s 0) w) (q := s172R_p7_den K s w) (fun s w h => s172R_p6_ok K s w @h) (fun i => tr_id) (by kernel_rfl) (by kernel_rfl) @h
/-- the call, from the text -/
theorem c172R (t0 : Value) {K : Value → World → Prop} {w : World} (h : s172R_p7 K t0 w) : cl Tryz.prog 172 #[t0] K w :=
  calls_of_tr (c := (Tryz.f172.body.getD .skip)) (fn := Tryz.f172) (q := s172R_p7_den K (st0 #[t0]) w) Tryz.func172 (by kernel_rfl) (by kernel_rfl) (Nat.le_of_ble_eq_true (by kernel_rfl)) (by kernel_rfl) (by kernel_rfl) (s172R_p7_ok K (st0 #[t0]) w @h)

/-! ### function 177 : (*e2e.engine.Engine).apply -/
def s177R_R (K : Value → World → Prop) (s : Nat → Value) (w : World) : Prop := retv Tryz.prog s Tryz.f177.results.toList (fun vs => K (pack vs) w) w
def s177R_p1 (K : Value → World → Prop) (t4 : Value) (w : World) : Prop :=
  cl Tryz.prog 129 #[(.int .i64 1)] (fun t116 w =>
  stn 34 t4 t116 (fun w =>
  ldn 34 t4 (fun r0 _ =>
  K r0 w) w) w) w
def s177R_p1_den (K : Value → World → Prop) : (Nat → Value) → World → Prop := denL Tryz.prog [(cd (Tryz.f177.body.getD .skip) [1, 1, 0]), (cd (Tryz.f177.body.getD .skip) [1, 1, 1])] (fun _ _ => False) (fun i => (fun _ _ => False)) (s177R_R K)
theorem s177R_p1_ok (K : Value → World → Prop) (s : Nat → Value) (w : World) (h : s177R_p1 K (s 4) w) : Tr (s177R_p1_den K s w) :=
  tr_simple (P := Tryz.prog) (codes := [(cd (Tryz.f177.body.getD .skip) [1, 1, 0]), (cd (Tryz.f177.body.getD .skip) [1, 1, 1])]) (N := (fun _ _ => False)) (N' := (fun _ _ => False)) (X := (fun i => (fun _ _ => False))) (X' := (fun i => (fun _ _ => False))) (R := s177R_R K) (s := s) (w := w) (p := s177R_p1 K (s 4) w) (q := s177R_p1_den K s w) tr_id (fun i => tr_id) (by kernel_rfl) (by kernel_rfl) @h
def s177R_p2 (K : Value → World → Prop) (t0 t3 t4 : Value) (w : World) : Prop :=
  ldn 8 t3 (fun t10 w =>
  cl Tryz.prog 206 #[t0, t10] (fun t11 w =>
  stn 34 t4 t11 (fun w =>
  ldn 34 t4 (fun r0 _ =>
  K r0 w) w) w) w) w
def s177R_p2_den (K : Value → World → Prop) : (Nat → Value) → World → Prop := denL Tryz.prog [(cd (Tryz.f177.body.getD .skip) [1, 0, 1, 0, 1, 0, 0]), (cd (Tryz.f177.body.getD .skip) [1, 0, 1, 0, 1, 0, 1])] (fun _ _ => False) (fun i => (bif Nat.beq i 0 then (s177R_p1_den K) else (fun _ _ => False))) (s177R_R K)
theorem s177R_p2_ok (K : Value → World → Prop) (s : Nat → Value) (w : World) (h : s177R_p2 K (s 0) (s 3) (s 4) w) : Tr (s177R_p2_den K s w) :=
  tr_simple (P := Tryz.prog) (codes := [(cd (Tryz.f177.body.getD .skip) [1, 0, 1, 0, 1, 0, 0]), (cd (Tryz.f177.body.getD .skip) [1, 0, 1, 0, 1, 0, 1])]) (N := (fun _ _ => False)) (N' := (fun _ _ => False)) (X := (fun i => (bif Nat.beq i 0 then (fun s w => s177R_p1 K (s 4) w) else (fun _ _ => False)))) (X' := (fun i => (bif Nat.beq i 0 then (s177R_p1_den K) else (fun _ _ => False)))) (R := s177R_R K) (s := s) (w := w) (p := s177R_p2 K (s 0) (s 3) (s 4) w) (q := s177R_p2_den K s w) tr_id (fun i => (tr_bif (fun s w h => s177R_p1_ok K s w @h) tr_id)) (by kernel_rfl) (by kernel_rfl) @h
def s177R_p3 (K : Value → World → Prop) (t4 : Value) (w : World) : Prop :=
  ldn 34 t4 (fun r0 _ =>
  K r0 w) w
def s177R_p3_den (K : Value → World → Prop) : (Nat → Value) → World → Prop := denL Tryz.prog [(cd (Tryz.f177.body.getD .skip) [1, 0, 1, 0, 1, 1, 1, 0, 1])] (fun _ _ => False) (fun i => (bif Nat.beq i 0 then (s177R_p1_den K) else (fun _ _ => False))) (s177R_R K)
theorem s177R_p3_ok (K : Value → World → Prop) (s : Nat → Value) (w : World) (h : s177R_p3 K (s 4) w) : Tr (s177R_p3_den K s w) :=
  tr_simple (P := Tryz.prog) (codes := [(cd (Tryz.f177.body.getD .skip) [1, 0, 1, 0, 1, 1, 1, 0, 1])]) (N := (fun _ _ => False)) (N' := (fun _ _ => False)) (X := (fun i => (bif Nat.beq i 0 then (fun s w => s177R_p1 K (s 4) w) else (fun _ _ => False)))) (X' := (fun i => (bif Nat.beq i 0 then (s177R_p1_den K) else (fun _ _ => False)))) (R := s177R_R K) (s := s) (w := w) (p := s177R_p3 K (s 4) w) (q := s177R_p3_den K s w) tr_id (fun i => (tr_bif (fun s w h => s177R_p1_ok K s w @h) tr_id)) (by kernel_rfl) (by kernel_rfl) @h
def s177R_p4_d (K : Value → World → Prop) (J : World → Prop) (t0 t3 t4 : Value) (w0 w : World) : Prop :=
  Go.Sh.R.qw J (ldn 8 t3) (fun t15 =>
  nck t0 (fun t17 _ =>
  fd 15 t17 (fun t18 _ =>
  Go.Sh.R.qw J (ld1 t18) (fun t19 =>
  nck t0 (fun t21 _ =>
  fd 14 t21 (fun t22 _ =>
  Go.Sh.R.qw J (ld1 t22) (fun t23 =>
  fd 1 t3 (fun t24 _ =>
  Go.Sh.R.qw J (ld1 t24) (fun t25 =>
  cl Tryz.prog 208 #[t19, t23, t25] (fun t26 w =>
  J w ∧
  cl Tryz.prog 207 #[t0, t15, t26] (fun t27 w =>
  stn 34 t4 t27 (fun w =>
  s177R_p3 K t4 w) w) w) w)) w0)) w0) w0)) w0) w0)
def s177R_p4 (K : Value → World → Prop) (t0 t3 t4 : Value) (w : World) : Prop := ∃ J : World → Prop, J (drw w) ∧ s177R_p4_d K J t0 t3 t4 (drw w) (drw w)
def s177R_p4_den (K : Value → World → Prop) : (Nat → Value) → World → Prop := denL Tryz.prog [(cd (Tryz.f177.body.getD .skip) [1, 0, 1, 0, 1, 1, 1, 0, 0])] (s177R_p3_den K) (fun i => (bif Nat.beq i 0 then (s177R_p1_den K) else (fun _ _ => False))) (s177R_R K)
theorem s177R_p4_ok (K : Value → World → Prop) (s : Nat → Value) (w : World) (h : s177R_p4 K (s 0) (s 3) (s 4) w) : Tr (s177R_p4_den K s w) :=
  Go.Sh.R.tr_drawR (P := Tryz.prog) (ops := (ro (cd (Tryz.f177.body.getD .skip) [1, 0, 1, 0, 1, 1, 1, 0, 0]))) (ms := [0, 0, 0, 4, 12, 28, 0, 64, 192, 448, 0, 1024, 4092, 8191, 16383]) (cs := [0, 1, 2, 3, 4, 5, 6, 7, 8, 9, 10, 11]) (N := (fun s w => s177R_p3 K (s 4) w)) (N' := (s177R_p3_den K)) (s := s) (w := w) (p := fun J => s177R_p4_d K J (s 0) (s 3) (s 4) (drw w) (drw w)) (q := s177R_p4_den K s w) (by kernel_rfl) (by kernel_rfl) (fun s w h => s177R_p3_ok K s w @h) (by kernel_rfl) (by kernel_rfl) @h
def s177R_p5 (K : Value → World → Prop) (t4 : Value) (w : World) : Prop :=
  ldn 34 t4 (fun r0 _ =>
  K r0 w) w
def s177R_p5_den (K : Value → World → Prop) : (Nat → Value) → World → Prop := denL Tryz.prog [(cd (Tryz.f177.body.getD .skip) [1, 0, 1, 0, 1, 1, 1, 1, 1, 0, 1])] (fun _ _ => False) (fun i => (bif Nat.beq i 0 then (s177R_p1_den K) else (fun _ _ => False))) (s177R_R K)
theorem s177R_p5_ok (K : Value → World → Prop) (s : Nat → Value) (w : World) (h : s177R_p5 K (s 4) w) : Tr (s177R_p5_den K s w) :=
  tr_simple (P := Tryz.prog) (codes := [(cd (Tryz.f177.body.getD .skip) [1, 0, 1, 0, 1, 1, 1, 1, 1, 0, 1])]) (N := (fun _ _ => False)) (N' := (fun _ _ => False)) (X := (fun i => (bif Nat.beq i 0 then (fun s w => s177R_p1 K (s 4) w) else (fun _ _ => False)))) (X' := (fun i => (bif Nat.beq i 0 then (s177R_p1_den K) else (fun _ _ => False)))) (R := s177R_R K) (s := s) (w := w) (p := s177R_p5 K (s 4) w) (q := s177R_p5_den K s w) tr_id (fun i => (tr_bif (fun s w h => s177R_p1_ok K s w @h) tr_id)) (by kernel_rfl) (by kernel_rfl) @h
def s177R_p6_d (K : Value → World → Prop) (J : World → Prop) (t0 t3 t4 : Value) (w0 w : World) : Prop :=
  Go.Sh.R.qw J (ldn 8 t3) (fun t31 =>
  nck t0 (fun t33 _ =>
  fd 15 t33 (fun t34 _ =>
  Go.Sh.R.qw J (ld1 t34) (fun t35 =>
  fd 1 t3 (fun t36 _ =>
  Go.Sh.R.qw J (ld1 t36) (fun t37 =>
  cl Tryz.prog 209 #[t35, t37] (fun t38 w =>
  J w ∧
  cl Tryz.prog 207 #[t0, t31, t38] (fun t39 w =>
  stn 34 t4 t39 (fun w =>
  s177R_p5 K t4 w) w) w) w)) w0)) w0) w0)
def s177R_p6 (K : Value → World → Prop) (t0 t3 t4 : Value) (w : World) : Prop := ∃ J : World → Prop, J (drw w) ∧ s177R_p6_d K J t0 t3 t4 (drw w) (drw w)
def s177R_p6_den (K : Value → World → Prop) : (Nat → Value) → World → Prop := denL Tryz.prog [(cd (Tryz.f177.body.getD .skip) [1, 0, 1, 0, 1, 1, 1, 1, 1, 0, 0])] (s177R_p5_den K) (fun i => (bif Nat.beq i 0 then (s177R_p1_den K) else (fun _ _ => False))) (s177R_R K)
theorem s177R_p6_ok (K : Value → World → Prop) (s : Nat → Value) (w : World) (h : s177R_p6 K (s 0) (s 3) (s 4) w) : Tr (s177R_p6_den K s w) :=
  Go.Sh.R.tr_drawR (P := Tryz.prog) (ops := (ro (cd (Tryz.f177.body.getD .skip) [1, 0, 1, 0, 1, 1, 1, 1, 1, 0, 0]))) (ms := [0, 0, 0, 4, 12, 28, 0, 64, 252, 511, 1023]) (cs := [0, 1, 2, 3, 4, 5, 6, 7]) (N := (fun s w => s177R_p5 K (s 4) w)) (N' := (s177R_p5_den K)) (s := s) (w := w) (p := fun J => s177R_p6_d K J (s 0) (s 3) (s 4) (drw w) (drw w)) (q := s177R_p6_den K s w) (by kernel_rfl) (by kernel_rfl) (fun s w h => s177R_p5_ok K s w @h) (by kernel_rfl) (by kernel_rfl) @h
def s177R_p7 (K : Value → World → Prop) (t4 : Value) (w : World) : Prop :=
  ldn 34 t4 (fun r0 _ =>
  K r0 w) w
def s177R_p7_den (K : Value → World → Prop) : (Nat → Value) → World → Prop := denL Tryz.prog [(cd (Tryz.f177.body.getD .skip) [1, 0, 1, 0, 1, 1, 1, 1, 1, 1, 1, 0, 1])] (fun _ _ => False) (fun i => (bif Nat.beq i 0 then (s177R_p1_den K) else (fun _ _ => False))) (s177R_R K)
theorem s177R_p7_ok (K : Value → World → Prop) (s : Nat → Value) (w : World) (h : s177R_p7 K (s 4) w) : Tr (s177R_p7_den K s w) :=
  tr_simple (P := Tryz.prog) (codes := [(cd (Tryz.f177.body.getD .skip) [1, 0, 1, 0, 1, 1, 1, 1, 1, 1, 1, 0, 1])]) (N := (fun _ _ => False)) (N' := (fun _ _ => False)) (X := (fun i => (bif Nat.beq i 0 then (fun s w => s177R_p1 K (s 4) w) else (fun _ _ => False)))) (X' := (fun i => (bif Nat.beq i 0 then (s177R_p1_den K) else (fun _ _ => False)))) (R := s177R_R K) (s := s) (w := w) (p := s177R_p7 K (s 4) w) (q := s177R_p7_den K s w) tr_id (fun i => (tr_bif (fun s w h => s177R_p1_ok K s w @h) tr_id)) (by kernel_rfl) (by kernel_rfl) @h
def s177R_p8_d (K : Value → World → Prop) (J : World → Prop) (t0 t3 t4 : Value) (w0 w : World) : Prop :=
  Go.Sh.R.qw J (ldn 8 t3) (fun t43 =>
  nck t0 (fun t45 _ =>
  fd 15 t45 (fun t46 _ =>
  Go.Sh.R.qw J (ld1 t46) (fun t47 =>
  nck t0 (fun t49 _ =>
  fd 14 t49 (fun t50 _ =>
  Go.Sh.R.qw J (ld1 t50) (fun t51 =>
  fd 1 t3 (fun t52 _ =>
  Go.Sh.R.qw J (ld1 t52) (fun t53 =>
  cl Tryz.prog 210 #[t47, t51, t53] (fun t54 w =>
  J w ∧
  cl Tryz.prog 207 #[t0, t43, t54] (fun t55 w =>
  stn 34 t4 t55 (fun w =>
  s177R_p7 K t4 w) w) w) w)) w0)) w0) w0)) w0) w0)
def s177R_p8 (K : Value → World → Prop) (t0 t3 t4 : Value) (w : World) : Prop := ∃ J : World → Prop, J (drw w) ∧ s177R_p8_d K J t0 t3 t4 (drw w) (drw w)
def s177R_p8_den (K : Value → World → Prop) : (Nat → Value) → World → Prop := denL Tryz.prog [(cd (Tryz.f177.body.getD .skip) [1, 0, 1, 0, 1, 1, 1, 1, 1, 1, 1, 0, 0])] (s177R_p7_den K) (fun i => (bif Nat.beq i 0 then (s177R_p1_den K) else (fun _ _ => False))) (s177R_R K)
theorem s177R_p8_ok (K : Value → World → Prop) (s : Nat → Value) (w : World) (h : s177R_p8 K (s 0) (s 3) (s 4) w) : Tr (s177R_p8_den K s w) :=
  Go.Sh.R.tr_drawR (P := Tryz.prog) (ops := (ro (cd (Tryz.f177.body.getD .skip) [1, 0, 1, 0, 1, 1, 1, 1, 1, 1, 1, 0, 0]))) (ms := [0, 0, 0, 4, 12, 28, 0, 64, 192, 448, 0, 1024, 4092, 8191, 16383]) (cs := [0, 1, 2, 3, 4, 5, 6, 7, 8, 9, 10, 11]) (N := (fun s w => s177R_p7 K (s 4) w)) (N' := (s177R_p7_den K)) (s := s) (w := w) (p := fun J => s177R_p8_d K J (s 0) (s 3) (s 4) (drw w) (drw w)) (q := s177R_p8_den K s w) (by kernel_rfl) (by kernel_rfl) (fun s w h => s177R_p7_ok K s w @h) (by kernel_rfl) (by kernel_rfl) @h
def s177R_p9 (K : Value → World → Prop) (t4 : Value) (w : World) : Prop :=
  ldn 34 t4 (fun r0 _ =>
  K r0 w) w
def s177R_p9_den (K : Value → World → Prop) : (Nat → Value) → World → Prop := denL Tryz.prog [(cd (Tryz.f177.body.getD .skip) [1, 0, 1, 0, 1, 1, 1, 1, 1, 1, 1, 1, 1, 0, 1])] (fun _ _ => False) (fun i => (bif Nat.beq i 0 then (s177R_p1_den K) else (fun _ _ => False))) (s177R_R K)
theorem s177R_p9_ok (K : Value → World → Prop) (s : Nat → Value) (w : World) (h : s177R_p9 K (s 4) w) : Tr (s177R_p9_den K s w) :=
  tr_simple (P := Tryz.prog) (codes := [(cd (Tryz.f177.body.getD .skip) [1, 0, 1, 0, 1, 1, 1, 1, 1, 1, 1, 1, 1, 0, 1])]) (N := (fun _ _ => False)) (N' := (fun _ _ => False)) (X := (fun i => (bif Nat.beq i 0 then (fun s w => s177R_p1 K (s 4) w) else (fun _ _ => False)))) (X' := (fun i => (bif Nat.beq i 0 then (s177R_p1_den K) else (fun _ _ => False)))) (R := s177R_R K) (s := s) (w := w) (p := s177R_p9 K (s 4) w) (q := s177R_p9_den K s w) tr_id (fun i => (tr_bif (fun s w h => s177R_p1_ok K s w @h) tr_id)) (by kernel_rfl) (by kernel_rfl) @h
def s177R_p10_d (K : Value → World → Prop) (J : World → Prop) (t0 t3 t4 : Value) (w0 w : World) : Prop :=
  Go.Sh.R.qw J (ldn 8 t3) (fun t59 =>
  nck t0 (fun t61 _ =>
  fd 15 t61 (fun t62 _ =>
  Go.Sh.R.qw J (ld1 t62) (fun t63 =>
  nck t0 (fun t65 _ =>
  fd 14 t65 (fun t66 _ =>
  Go.Sh.R.qw J (ld1 t66) (fun t67 =>
  fd 1 t3 (fun t68 _ =>
  Go.Sh.R.qw J (ld1 t68) (fun t69 =>
  fd 7 t3 (fun t70 _ =>
  Go.Sh.R.qw J (ld1 t70) (fun t71 =>
  cl Tryz.prog 211 #[t63, t67, t69, t71] (fun t72 w =>
  J w ∧
  cl Tryz.prog 207 #[t0, t59, t72] (fun t73 w =>
  stn 34 t4 t73 (fun w =>
  s177R_p9 K t4 w) w) w) w)) w0)) w0)) w0) w0)) w0) w0)
def s177R_p10 (K : Value → World → Prop) (t0 t3 t4 : Value) (w : World) : Prop := ∃ J : World → Prop, J (drw w) ∧ s177R_p10_d K J t0 t3 t4 (drw w) (drw w)
def s177R_p10_den (K : Value → World → Prop) : (Nat → Value) → World → Prop := denL Tryz.prog [(cd (Tryz.f177.body.getD .skip) [1, 0, 1, 0, 1, 1, 1, 1, 1, 1, 1, 1, 1, 0, 0])] (s177R_p9_den K) (fun i => (bif Nat.beq i 0 then (s177R_p1_den K) else (fun _ _ => False))) (s177R_R K)
theorem s177R_p10_ok (K : Value → World → Prop) (s : Nat → Value) (w : World) (h : s177R_p10 K (s 0) (s 3) (s 4) w) : Tr (s177R_p10_den K s w) :=
  Go.Sh.R.tr_drawR (P := Tryz.prog) (ops := (ro (cd (Tryz.f177.body.getD .skip) [1, 0, 1, 0, 1, 1, 1, 1, 1, 1, 1, 1, 1, 0, 0]))) (ms := [0, 0, 0, 4, 12, 28, 0, 64, 192, 448, 0, 1024, 0, 4096, 16380, 32767, 65535]) (cs := [0, 1, 2, 3, 4, 5, 6, 7, 8, 9, 10, 11, 12, 13]) (N := (fun s w => s177R_p9 K (s 4) w)) (N' := (s177R_p9_den K)) (s := s) (w := w) (p := fun J => s177R_p10_d K J (s 0) (s 3) (s 4) (drw w) (drw w)) (q := s177R_p10_den K s w) (by kernel_rfl) (by kernel_rfl) (fun s w h => s177R_p9_ok K s w @h) (by kernel_rfl) (by kernel_rfl) @h
def s177R_p11 (K : Value → World → Prop) (t0 t3 t4 : Value) (w : World) : Prop :=
  ldn 8 t3 (fun t77 w =>
  cl Tryz.prog 212 #[t0, t77] (fun t78 w =>
  stn 34 t4 t78 (fun w =>
  ldn 34 t4 (fun r0 _ =>
  K r0 w) w) w) w) w
def s177R_p11_den (K : Value → World → Prop) : (Nat → Value) → World → Prop := denL Tryz.prog [(cd (Tryz.f177.body.getD .skip) [1, 0, 1, 0, 1, 1, 1, 1, 1, 1, 1, 1, 1, 1, 1, 0, 0]), (cd (Tryz.f177.body.getD .skip) [1, 0, 1, 0, 1, 1, 1, 1, 1, 1, 1, 1, 1, 1, 1, 0, 1])] (fun _ _ => False) (fun i => (bif Nat.beq i 0 then (s177R_p1_den K) else (fun _ _ => False))) (s177R_R K)
theorem s177R_p11_ok (K : Value → World → Prop) (s : Nat → Value) (w : World) (h : s177R_p11 K (s 0) (s 3) (s 4) w) : Tr (s177R_p11_den K s w) :=
  tr_simple (P := Tryz.prog) (codes := [(cd (Tryz.f177.body.getD .skip) [1, 0, 1, 0, 1, 1, 1, 1, 1, 1, 1, 1, 1, 1, 1, 0, 0]), (cd (Tryz.f177.body.getD .skip) [1, 0, 1, 0, 1, 1, 1, 1, 1, 1, 1, 1, 1, 1, 1, 0, 1])]) (N := (fun _ _ => False)) (N' := (fun _ _ => False)) (X := (fun i => (bif Nat.beq i 0 then (fun s w => s177R_p1 K (s 4) w) else (fun _ _ => False)))) (X' := (fun i => (bif Nat.beq i 0 then (s177R_p1_den K) else (fun _ _ => False)))) (R := s177R_R K) (s := s) (w := w) (p := s177R_p11 K (s 0) (s 3) (s 4) w) (q := s177R_p11_den K s w) tr_id (fun i => (tr_bif (fun s w h => s177R_p1_ok K s w @h) tr_id)) (by kernel_rfl) (by kernel_rfl) @h
def s177R_p12 (K : Value → World → Prop) (t4 : Value) (w : World) : Prop :=
  ldn 34 t4 (fun r0 _ =>
  K r0 w) w
def s177R_p12_den (K : Value → World → Prop) : (Nat → Value) → World → Prop := denL Tryz.prog [(cd (Tryz.f177.body.getD .skip) [1, 0, 1, 0, 1, 1, 1, 1, 1, 1, 1, 1, 1, 1, 1, 1, 1, 0, 1])] (fun _ _ => False) (fun i => (bif Nat.beq i 0 then (s177R_p1_den K) else (fun _ _ => False))) (s177R_R K)
theorem s177R_p12_ok (K : Value → World → Prop) (s : Nat → Value) (w : World) (h : s177R_p12 K (s 4) w) : Tr (s177R_p12_den K s w) :=
  tr_simple (P := Tryz.prog) (codes := [(cd (Tryz.f177.body.getD .skip) [1, 0, 1, 0, 1, 1, 1, 1, 1, 1, 1, 1, 1, 1, 1, 1, 1, 0, 1])]) (N := (fun _ _ => False)) (N' := (fun _ _ => False)) (X := (fun i => (bif Nat.beq i 0 then (fun s w => s177R_p1 K (s 4) w) else (fun _ _ => False)))) (X' := (fun i => (bif Nat.beq i 0 then (s177R_p1_den K) else (fun _ _ => False)))) (R := s177R_R K) (s := s) (w := w) (p := s177R_p12 K (s 4) w) (q := s177R_p12_den K s w) tr_id (fun i => (tr_bif (fun s w h => s177R_p1_ok K s w @h) tr_id)) (by kernel_rfl) (by kernel_rfl) @h
def s177R_p13_d (K : Value → World → Prop) (J : World → Prop) (t0 t3 t4 : Value) (w0 w : World) : Prop :=
  Go.Sh.R.qw J (ldn 8 t3) (fun t82 =>
  nck t0 (fun t84 _ =>
  fd 16 t84 (fun t85 _ =>
  Go.Sh.R.qw J (ld1 t85) (fun t86 =>
  nck t0 (fun t88 _ =>
  fd 15 t88 (fun t89 _ =>
  Go.Sh.R.qw J (ld1 t89) (fun t90 =>
  fd 1 t3 (fun t91 _ =>
  Go.Sh.R.qw J (ld1 t91) (fun t92 =>
  cl Tryz.prog 213 #[t86, t90, t92] (fun t93 w =>
  J w ∧
  cl Tryz.prog 207 #[t0, t82, t93] (fun t94 w =>
  stn 34 t4 t94 (fun w =>
  s177R_p12 K t4 w) w) w) w)) w0)) w0) w0)) w0) w0)
def s177R_p13 (K : Value → World → Prop) (t0 t3 t4 : Value) (w : World) : Prop := ∃ J : World → Prop, J (drw w) ∧ s177R_p13_d K J t0 t3 t4 (drw w) (drw w)
def s177R_p13_den (K : Value → World → Prop) : (Nat → Value) → World → Prop := denL Tryz.prog [(cd (Tryz.f177.body.getD .skip) [1, 0, 1, 0, 1, 1, 1, 1, 1, 1, 1, 1, 1, 1, 1, 1, 1, 0, 0])] (s177R_p12_den K) (fun i => (bif Nat.beq i 0 then (s177R_p1_den K) else (fun _ _ => False))) (s177R_R K)
theorem s177R_p13_ok (K : Value → World → Prop) (s : Nat → Value) (w : World) (h : s177R_p13 K (s 0) (s 3) (s 4) w) : Tr (s177R_p13_den K s w) :=
  Go.Sh.R.tr_drawR (P := Tryz.prog) (ops := (ro (cd (Tryz.f177.body.getD .skip) [1, 0, 1, 0, 1, 1, 1, 1, 1, 1, 1, 1, 1, 1, 1, 1, 1, 0, 0]))) (ms := [0, 0, 0, 4, 12, 28, 0, 64, 192, 448, 0, 1024, 4092, 8191, 16383]) (cs := [0, 1, 2, 3, 4, 5, 6, 7, 8, 9, 10, 11]) (N := (fun s w => s177R_p12 K (s 4) w)) (N' := (s177R_p12_den K)) (s := s) (w := w) (p := fun J => s177R_p13_d K J (s 0) (s 3) (s 4) (drw w) (drw w)) (q := s177R_p13_den K s w) (by kernel_rfl) (by kernel_rfl) (fun s w h => s177R_p12_ok K s w @h) (by kernel_rfl) (by kernel_rfl) @h
def s177R_p14 (K : Value → World → Prop) (t4 : Value) (w : World) : Prop :=
  ldn 34 t4 (fun r0 _ =>
  K r0 w) w
def s177R_p14_den (K : Value → World → Prop) : (Nat → Value) → World → Prop := denL Tryz.prog [(cd (Tryz.f177.body.getD .skip) [1, 0, 1, 0, 1, 1, 1, 1, 1, 1, 1, 1, 1, 1, 1, 1, 1, 1, 1, 0, 1])] (fun _ _ => False) (fun i => (bif Nat.beq i 0 then (s177R_p1_den K) else (fun _ _ => False))) (s177R_R K)
theorem s177R_p14_ok (K : Value → World → Prop) (s : Nat → Value) (w : World) (h : s177R_p14 K (s 4) w) : Tr (s177R_p14_den K s w) :=
  tr_simple (P := Tryz.prog) (codes := [(cd (Tryz.f177.body.getD .skip) [1, 0, 1, 0, 1, 1, 1, 1, 1, 1, 1, 1, 1, 1, 1, 1, 1, 1, 1, 0, 1])]) (N := (fun _ _ => False)) (N' := (fun _ _ => False)) (X := (fun i => (bif Nat.beq i 0 then (fun s w => s177R_p1 K (s 4) w) else (fun _ _ => False)))) (X' := (fun i => (bif Nat.beq i 0 then (s177R_p1_den K) else (fun _ _ => False)))) (R := s177R_R K) (s := s) (w := w) (p := s177R_p14 K (s 4) w) (q := s177R_p14_den K s w) tr_id (fun i => (tr_bif (fun s w h => s177R_p1_ok K s w @h) tr_id)) (by kernel_rfl) (by kernel_rfl) @h
def s177R_p15_d (K : Value → World → Prop) (J : World → Prop) (t0 t3 t4 : Value) (w0 w : World) : Prop :=
  Go.Sh.R.qw J (ldn 8 t3) (fun t98 =>
  nck t0 (fun t100 _ =>
  fd 15 t100 (fun t101 _ =>
  Go.Sh.R.qw J (ld1 t101) (fun t102 =>
  nck t0 (fun t104 _ =>
  fd 14 t104 (fun t105 _ =>
  Go.Sh.R.qw J (ld1 t105) (fun t106 =>
  fd 1 t3 (fun t107 _ =>
  Go.Sh.R.qw J (ld1 t107) (fun t108 =>
  cl Tryz.prog 214 #[t102, t106, t108] (fun t109 w =>
  J w ∧
  cl Tryz.prog 207 #[t0, t98, t109] (fun t110 w =>
  stn 34 t4 t110 (fun w =>
  s177R_p14 K t4 w) w) w) w)) w0)) w0) w0)) w0) w0)
def s177R_p15 (K : Value → World → Prop) (t0 t3 t4 : Value) (w : World) : Prop := ∃ J : World → Prop, J (drw w) ∧ s177R_p15_d K J t0 t3 t4 (drw w) (drw w)
def s177R_p15_den (K : Value → World → Prop) : (Nat → Value) → World → Prop := denL Tryz.prog [(cd (Tryz.f177.body.getD .skip) [1, 0, 1, 0, 1, 1, 1, 1, 1, 1, 1, 1, 1, 1, 1, 1, 1, 1, 1, 0, 0])] (s177R_p14_den K) (fun i => (bif Nat.beq i 0 then (s177R_p1_den K) else (fun _ _ => False))) (s177R_R K)
theorem s177R_p15_ok (K : Value → World → Prop) (s : Nat → Value) (w : World) (h : s177R_p15 K (s 0) (s 3) (s 4) w) : Tr (s177R_p15_den K s w) :=
  Go.Sh.R.tr_drawR (P := Tryz.prog) (ops := (ro (cd (Tryz.f177.body.getD .skip) [1, 0, 1, 0, 1, 1, 1, 1, 1, 1, 1, 1, 1, 1, 1, 1, 1, 1, 1, 0, 0]))) (ms := [0, 0, 0, 4, 12, 28, 0, 64, 192, 448, 0, 1024, 4092, 8191, 16383]) (cs := [0, 1, 2, 3, 4, 5, 6, 7, 8, 9, 10, 11]) (N := (fun s w => s177R_p14 K (s 4) w)) (N' := (s177R_p14_den K)) (s := s) (w := w) (p := fun J => s177R_p15_d K J (s 0) (s 3) (s 4) (drw w) (drw w)) (q := s177R_p15_den K s w) (by kernel_rfl) (by kernel_rfl) (fun s w h => s177R_p14_ok K s w @h) (by kernel_rfl) (by kernel_rfl) @h
def s177R_p16 (K : Value → World → Prop) (t0 t3 t4 t6 : Value) (w : World) : Prop :=
  boI .eql t6 (.int .u8 9) (fun t112 w =>
  ifb t112
  (ldn 8 t3 (fun t114 w =>
  cl Tryz.prog 215 #[t0, t114] (fun t115 w =>
  stn 34 t4 t115 (fun w =>
  ldn 34 t4 (fun r0 _ =>
  K r0 w) w) w) w) w)
  (s177R_p1 K t4 w)) w
def s177R_p16_den (K : Value → World → Prop) : (Nat → Value) → World → Prop := denL Tryz.prog [(cd (Tryz.f177.body.getD .skip) [1, 0, 1, 0, 1, 1, 1, 1, 1, 1, 1, 1, 1, 1, 1, 1, 1, 1, 1, 1, 0]), (cd (Tryz.f177.body.getD .skip) [1, 0, 1, 0, 1, 1, 1, 1, 1, 1, 1, 1, 1, 1, 1, 1, 1, 1, 1, 1, 1])] (s177R_p1_den K) (fun i => (bif Nat.beq i 0 then (s177R_p1_den K) else (fun _ _ => False))) (s177R_R K)
theorem s177R_p16_ok (K : Value → World → Prop) (s : Nat → Value) (w : World) (h : s177R_p16 K (s 0) (s 3) (s 4) (s 6) w) : Tr (s177R_p16_den K s w) :=
  tr_simple (P := Tryz.prog) (codes := [(cd (Tryz.f177.body.getD .skip) [1, 0, 1, 0, 1, 1, 1, 1, 1, 1, 1, 1, 1, 1, 1, 1, 1, 1, 1, 1, 0]), (cd (Tryz.f177.body.getD .skip) [1, 0, 1, 0, 1, 1, 1, 1, 1, 1, 1, 1, 1, 1, 1, 1, 1, 1, 1, 1, 1])]) (N := (fun s w => s177R_p1 K (s 4) w)) (N' := (s177R_p1_den K)) (X := (fun i => (bif Nat.beq i 0 then (fun s w => s177R_p1 K (s 4) w) else (fun _ _ => False)))) (X' := (fun i => (bif Nat.beq i 0 then (s177R_p1_den K) else (fun _ _ => False)))) (R := s177R_R K) (s := s) (w := w) (p := s177R_p16 K (s 0) (s 3) (s 4) (s 6) w) (q := s177R_p16_den K s w) (fun s w h => s177R_p1_ok K s w @h) (fun i => (tr_bif (fun s w h => s177R_p1_ok K s w @h) tr_id)) (by kernel_rfl) (by kernel_rfl) @h
def s177R_p17 (K : Value → World → Prop) (t0 t3 t4 t6 t95 : Value) (w : World) : Prop :=
  ifb t95
  (s177R_p15 K t0 t3 t4 w)
  (s177R_p16 K t0 t3 t4 t6 w)
def s177R_p17_den (K : Value → World → Prop) : (Nat → Value) → World → Prop := fun s w => ifb (ev s (.tmp 95)) ((s177R_p15_den K) s w) ((s177R_p16_den K) s w)
theorem s177R_p17_ok (K : Value → World → Prop) (s : Nat → Value) (w : World) (h : s177R_p17 K (s 0) (s 3) (s 4) (s 6) (s 95) w) : Tr (s177R_p17_den K s w) :=
  tr_cond (v := ev s (.tmp 95)) (a := (fun s w => s177R_p15 K (s 0) (s 3) (s 4) w) s w) (a' := (s177R_p15_den K) s w) (b := (fun s w => s177R_p16 K (s 0) (s 3) (s 4) (s 6) w) s w) (b' := (s177R_p16_den K) s w) (p := s177R_p17 K (s 0) (s 3) (s 4) (s 6) (s 95) w) (q := s177R_p17_den K s w) ((fun s w h => s177R_p15_ok K s w @h) s w) ((fun s w h => s177R_p16_ok K s w @h) s w) (by kernel_rfl) (by kernel_rfl) @h
def s177R_p18 (K : Value → World → Prop) (t0 t3 t4 t6 : Value) (w : World) : Prop :=
  boI .eql t6 (.int .u8 8) (fun t96 w =>
  s177R_p17 K t0 t3 t4 t6 t96 w) w
def s177R_p18_den (K : Value → World → Prop) : (Nat → Value) → World → Prop := denL Tryz.prog [(cd (Tryz.f177.body.getD .skip) [1, 0, 1, 0, 1, 1, 1, 1, 1, 1, 1, 1, 1, 1, 1, 1, 1, 1, 0])] (s177R_p17_den K) (fun i => (bif Nat.beq i 0 then (s177R_p1_den K) else (fun _ _ => False))) (s177R_R K)
theorem s177R_p18_ok (K : Value → World → Prop) (s : Nat → Value) (w : World) (h : s177R_p18 K (s 0) (s 3) (s 4) (s 6) w) : Tr (s177R_p18_den K s w) :=
  tr_simple (P := Tryz.prog) (codes := [(cd (Tryz.f177.body.getD .skip) [1, 0, 1, 0, 1, 1, 1, 1, 1, 1, 1, 1, 1, 1, 1, 1, 1, 1, 0])]) (N := (fun s w => s177R_p17 K (s 0) (s 3) (s 4) (s 6) (s 95) w)) (N' := (s177R_p17_den K)) (X := (fun i => (bif Nat.beq i 0 then (fun s w => s177R_p1 K (s 4) w) else (fun _ _ => False)))) (X' := (fun i => (bif Nat.beq i 0 then (s177R_p1_den K) else (fun _ _ => False)))) (R := s177R_R K) (s := s) (w := w) (p := s177R_p18 K (s 0) (s 3) (s 4) (s 6) w) (q := s177R_p18_den K s w) (fun s w h => s177R_p17_ok K s w @h) (fun i => (tr_bif (fun s w h => s177R_p1_ok K s w @h) tr_id)) (by kernel_rfl) (by kernel_rfl) @h
def s177R_p19 (K : Value → World → Prop) (t0 t3 t4 t6 t79 : Value) (w : World) : Prop :=
  ifb t79
  (s177R_p13 K t0 t3 t4 w)
  (s177R_p18 K t0 t3 t4 t6 w)
def s177R_p19_den (K : Value → World → Prop) : (Nat → Value) → World → Prop := fun s w => ifb (ev s (.tmp 79)) ((s177R_p13_den K) s w) ((s177R_p18_den K) s w)
theorem s177R_p19_ok (K : Value → World → Prop) (s : Nat → Value) (w : World) (h : s177R_p19 K (s 0) (s 3) (s 4) (s 6) (s 79) w) : Tr (s177R_p19_den K s w) :=
  tr_cond (v := ev s (.tmp 79)) (a := (fun s w => s177R_p13 K (s 0) (s 3) (s 4) w) s w) (a' := (s177R_p13_den K) s w) (b := (fun s w => s177R_p18 K (s 0) (s 3) (s 4) (s 6) w) s w) (b' := (s177R_p18_den K) s w) (p := s177R_p19 K (s 0) (s 3) (s 4) (s 6) (s 79) w) (q := s177R_p19_den K s w) ((fun s w h => s177R_p13_ok K s w @h) s w) ((fun s w h => s177R_p18_ok K s w @h) s w) (by kernel_rfl) (by kernel_rfl) @h
def s177R_p20 (K : Value → World → Prop) (t0 t3 t4 t6 : Value) (w : World) : Prop :=
  boI .eql t6 (.int .u8 7) (fun t80 w =>
  s177R_p19 K t0 t3 t4 t6 t80 w) w
def s177R_p20_den (K : Value → World → Prop) : (Nat → Value) → World → Prop := denL Tryz.prog [(cd (Tryz.f177.body.getD .skip) [1, 0, 1, 0, 1, 1, 1, 1, 1, 1, 1, 1, 1, 1, 1, 1, 0])] (s177R_p19_den K) (fun i => (bif Nat.beq i 0 then (s177R_p1_den K) else (fun _ _ => False))) (s177R_R K)
theorem s177R_p20_ok (K : Value → World → Prop) (s : Nat → Value) (w : World) (h : s177R_p20 K (s 0) (s 3) (s 4) (s 6) w) : Tr (s177R_p20_den K s w) :=
  tr_simple (P := Tryz.prog) (codes := [(cd (Tryz.f177.body.getD .skip) [1, 0, 1, 0, 1, 1, 1, 1, 1, 1, 1, 1, 1, 1, 1, 1, 0])]) (N := (fun s w => s177R_p19 K (s 0) (s 3) (s 4) (s 6) (s 79) w)) (N' := (s177R_p19_den K)) (X := (fun i => (bif Nat.beq i 0 then (fun s w => s177R_p1 K (s 4) w) else (fun _ _ => False)))) (X' := (fun i => (bif Nat.beq i 0 then (s177R_p1_den K) else (fun _ _ => False)))) (R := s177R_R K) (s := s) (w := w) (p := s177R_p20 K (s 0) (s 3) (s 4) (s 6) w) (q := s177R_p20_den K s w) (fun s w h => s177R_p19_ok K s w @h) (fun i => (tr_bif (fun s w h => s177R_p1_ok K s w @h) tr_id)) (by kernel_rfl) (by kernel_rfl) @h
def s177R_p21 (K : Value → World → Prop) (t0 t3 t4 t6 t74 : Value) (w : World) : Prop :=
  ifb t74
  (s177R_p11 K t0 t3 t4 w)
  (s177R_p20 K t0 t3 t4 t6 w)
def s177R_p21_den (K : Value → World → Prop) : (Nat → Value) → World → Prop := fun s w => ifb (ev s (.tmp 74)) ((s177R_p11_den K) s w) ((s177R_p20_den K) s w)
theorem s177R_p21_ok (K : Value → World → Prop) (s : Nat → Value) (w : World) (h : s177R_p21 K (s 0) (s 3) (s 4) (s 6) (s 74) w) : Tr (s177R_p21_den K s w) :=
  tr_cond (v := ev s (.tmp 74)) (a := (fun s w => s177R_p11 K (s 0) (s 3) (s 4) w) s w) (a' := (s177R_p11_den K) s w) (b := (fun s w => s177R_p20 K (s 0) (s 3) (s 4) (s 6) w) s w) (b' := (s177R_p20_den K) s w) (p := s177R_p21 K (s 0) (s 3) (s 4) (s 6) (s 74) w) (q := s177R_p21_den K s w) ((fun s w h => s177R_p11_ok K s w @h) s w) ((fun s w h => s177R_p20_ok K s w @h) s w) (by kernel_rfl) (by kernel_rfl) @h
def s177R_p22 (K : Value → World → Prop) (t0 t3 t4 t6 : Value) (w : World) : Prop :=
  boI .eql t6 (.int .u8 6) (fun t75 w =>
  s177R_p21 K t0 t3 t4 t6 t75 w) w
def s177R_p22_den (K : Value → World → Prop) : (Nat → Value) → World → Prop := denL Tryz.prog [(cd (Tryz.f177.body.getD .skip) [1, 0, 1, 0, 1, 1, 1, 1, 1, 1, 1, 1, 1, 1, 0])] (s177R_p21_den K) (fun i => (bif Nat.beq i 0 then (s177R_p1_den K) else (fun _ _ => False))) (s177R_R K)
theorem s177R_p22_ok (K : Value → World → Prop) (s : Nat → Value) (w : World) (h : s177R_p22 K (s 0) (s 3) (s 4) (s 6) w) : Tr (s177R_p22_den K s w) :=
  tr_simple (P := Tryz.prog) (codes := [(cd (Tryz.f177.body.getD .skip) [1, 0, 1, 0, 1, 1, 1, 1, 1, 1, 1, 1, 1, 1, 0])]) (N := (fun s w => s177R_p21 K (s 0) (s 3) (s 4) (s 6) (s 74) w)) (N' := (s177R_p21_den K)) (X := (fun i => (bif Nat.beq i 0 then (fun s w => s177R_p1 K (s 4) w) else (fun _ _ => False)))) (X' := (fun i => (bif Nat.beq i 0 then (s177R_p1_den K) else (fun _ _ => False)))) (R := s177R_R K) (s := s) (w := w) (p := s177R_p22 K (s 0) (s 3) (s 4) (s 6) w) (q := s177R_p22_den K s w) (fun s w h => s177R_p21_ok K s w @h) (fun i => (tr_bif (fun s w h => s177R_p1_ok K s w @h) tr_id)) (by kernel_rfl) (by kernel_rfl) @h
def s177R_p23 (K : Value → World → Prop) (t0 t3 t4 t6 t56 : Value) (w : World) : Prop :=
  ifb t56
  (s177R_p10 K t0 t3 t4 w)
  (s177R_p22 K t0 t3 t4 t6 w)
def s177R_p23_den (K : Value → World → Prop) : (Nat → Value) → World → Prop := fun s w => ifb (ev s (.tmp 56)) ((s177R_p10_den K) s w) ((s177R_p22_den K) s w)
theorem s177R_p23_ok (K : Value → World → Prop) (s : Nat → Value) (w : World) (h : s177R_p23 K (s 0) (s 3) (s 4) (s 6) (s 56) w) : Tr (s177R_p23_den K s w) :=
  tr_cond (v := ev s (.tmp 56)) (a := (fun s w => s177R_p10 K (s 0) (s 3) (s 4) w) s w) (a' := (s177R_p10_den K) s w) (b := (fun s w => s177R_p22 K (s 0) (s 3) (s 4) (s 6) w) s w) (b' := (s177R_p22_den K) s w) (p := s177R_p23 K (s 0) (s 3) (s 4) (s 6) (s 56) w) (q := s177R_p23_den K s w) ((fun s w h => s177R_p10_ok K s w @h) s w) ((fun s w h => s177R_p22_ok K s w @h) s w) (by kernel_rfl) (by kernel_rfl) @h
def s177R_p24 (K : Value → World → Prop) (t0 t3 t4 t6 : Value) (w : World) : Prop :=
  boI .eql t6 (.int .u8 5) (fun t57 w =>
  s177R_p23 K t0 t3 t4 t6 t57 w) w
def s177R_p24_den (K : Value → World → Prop) : (Nat → Value) → World → Prop := denL Tryz.prog [(cd (Tryz.f177.body.getD .skip) [1, 0, 1, 0, 1, 1, 1, 1, 1, 1, 1, 1, 0])] (s177R_p23_den K) (fun i => (bif Nat.beq i 0 then (s177R_p1_den K) else (fun _ _ => False))) (s177R_R K)
theorem s177R_p24_ok (K : Value → World → Prop) (s : Nat → Value) (w : World) (h : s177R_p24 K (s 0) (s 3) (s 4) (s 6) w) : Tr (s177R_p24_den K s w) :=
  tr_simple (P := Tryz.prog) (codes := [(cd (Tryz.f177.body.getD .skip) [1, 0, 1, 0, 1, 1, 1, 1, 1, 1, 1, 1, 0])]) (N := (fun s w => s177R_p23 K (s 0) (s 3) (s 4) (s 6) (s 56) w)) (N' := (s177R_p23_den K)) (X := (fun i => (bif Nat.beq i 0 then (fun s w => s177R_p1 K (s 4) w) else (fun _ _ => False)))) (X' := (fun i => (bif Nat.beq i 0 then (s177R_p1_den K) else (fun _ _ => False)))) (R := s177R_R K) (s := s) (w := w) (p := s177R_p24 K (s 0) (s 3) (s 4) (s 6) w) (q := s177R_p24_den K s w) (fun s w h => s177R_p23_ok K s w @h) (fun i => (tr_bif (fun s w h => s177R_p1_ok K s w @h) tr_id)) (by kernel_rfl) (by kernel_rfl) @h
def s177R_p25 (K : Value → World → Prop) (t0 t3 t4 t6 t40 : Value) (w : World) : Prop :=
  ifb t40
  (s177R_p8 K t0 t3 t4 w)
  (s177R_p24 K t0 t3 t4 t6 w)
def s177R_p25_den (K : Value → World → Prop) : (Nat → Value) → World → Prop := fun s w => ifb (ev s (.tmp 40)) ((s177R_p8_den K) s w) ((s177R_p24_den K) s w)
theorem s177R_p25_ok (K : Value → World → Prop) (s : Nat → Value) (w : World) (h : s177R_p25 K (s 0) (s 3) (s 4) (s 6) (s 40) w) : Tr (s177R_p25_den K s w) :=
  tr_cond (v := ev s (.tmp 40)) (a := (fun s w => s177R_p8 K (s 0) (s 3) (s 4) w) s w) (a' := (s177R_p8_den K) s w) (b := (fun s w => s177R_p24 K (s 0) (s 3) (s 4) (s 6) w) s w) (b' := (s177R_p24_den K) s w) (p := s177R_p25 K (s 0) (s 3) (s 4) (s 6) (s 40) w) (q := s177R_p25_den K s w) ((fun s w h => s177R_p8_ok K s w @h) s w) ((fun s w h => s177R_p24_ok K s w @h) s w) (by kernel_rfl) (by kernel_rfl) @h
def s177R_p26 (K : Value → World → Prop) (t0 t3 t4 t6 : Value) (w : World) : Prop :=
  boI .eql t6 (.int .u8 4) (fun t41 w =>
  s177R_p25 K t0 t3 t4 t6 t41 w) w
def s177R_p26_den (K : Value → World → Prop) : (Nat → Value) → World → Prop := denL Tryz.prog [(cd (Tryz.f177.body.getD .skip) [1, 0, 1, 0, 1, 1, 1, 1, 1, 1, 0])] (s177R_p25_den K) (fun i => (bif Nat.beq i 0 then (s177R_p1_den K) else (fun _ _ => False))) (s177R_R K)
theorem s177R_p26_ok (K : Value → World → Prop) (s : Nat → Value) (w : World) (h : s177R_p26 K (s 0) (s 3) (s 4) (s 6) w) : Tr (s177R_p26_den K s w) :=
  tr_simple (P := Tryz.prog) (codes := [(cd (Tryz.f177.body.getD .skip) [1, 0, 1, 0, 1, 1, 1, 1, 1, 1, 0])]) (N := (fun s w => s177R_p25 K (s 0) (s 3) (s 4) (s 6) (s 40) w)) (N' := (s177R_p25_den K)) (X := (fun i => (bif Nat.beq i 0 then (fun s w => s177R_p1 K (s 4) w) else (fun _ _ => False)))) (X' := (fun i => (bif Nat.beq i 0 then (s177R_p1_den K) else (fun _ _ => False)))) (R := s177R_R K) (s := s) (w := w) (p := s177R_p26 K (s 0) (s 3) (s 4) (s 6) w) (q := s177R_p26_den K s w) (fun s w h => s177R_p25_ok K s w @h) (fun i => (tr_bif (fun s w h => s177R_p1_ok K s w @h) tr_id)) (by kernel_rfl) (by kernel_rfl) @h
def s177R_p27 (K : Value → World → Prop) (t0 t3 t4 t6 t28 : Value) (w : World) : Prop :=
  ifb t28
  (s177R_p6 K t0 t3 t4 w)
  (s177R_p26 K t0 t3 t4 t6 w)
def s177R_p27_den (K : Value → World → Prop) : (Nat → Value) → World → Prop := fun s w => ifb (ev s (.tmp 28)) ((s177R_p6_den K) s w) ((s177R_p26_den K) s w)
theorem s177R_p27_ok (K : Value → World → Prop) (s : Nat → Value) (w : World) (h : s177R_p27 K (s 0) (s 3) (s 4) (s 6) (s 28) w) : Tr (s177R_p27_den K s w) :=
  tr_cond (v := ev s (.tmp 28)) (a := (fun s w => s177R_p6 K (s 0) (s 3) (s 4) w) s w) (a' := (s177R_p6_den K) s w) (b := (fun s w => s177R_p26 K (s 0) (s 3) (s 4) (s 6) w) s w) (b' := (s177R_p26_den K) s w) (p := s177R_p27 K (s 0) (s 3) (s 4) (s 6) (s 28) w) (q := s177R_p27_den K s w) ((fun s w h => s177R_p6_ok K s w @h) s w) ((fun s w h => s177R_p26_ok K s w @h) s w) (by kernel_rfl) (by kernel_rfl) @h
def s177R_p28 (K : Value → World → Prop) (t0 t3 t4 t6 : Value) (w : World) : Prop :=
  boI .eql t6 (.int .u8 3) (fun t29 w =>
  s177R_p27 K t0 t3 t4 t6 t29 w) w
def s177R_p28_den (K : Value → World → Prop) : (Nat → Value) → World → Prop := denL Tryz.prog [(cd (Tryz.f177.body.getD .skip) [1, 0, 1, 0, 1, 1, 1, 1, 0])] (s177R_p27_den K) (fun i => (bif Nat.beq i 0 then (s177R_p1_den K) else (fun _ _ => False))) (s177R_R K)
theorem s177R_p28_ok (K : Value → World → Prop) (s : Nat → Value) (w : World) (h : s177R_p28 K (s 0) (s 3) (s 4) (s 6) w) : Tr (s177R_p28_den K s w) :=
  tr_simple (P := Tryz.prog) (codes := [(cd (Tryz.f177.body.getD .skip) [1, 0, 1, 0, 1, 1, 1, 1, 0])]) (N := (fun s w => s177R_p27 K (s 0) (s 3) (s 4) (s 6) (s 28) w)) (N' := (s177R_p27_den K)) (X := (fun i => (bif Nat.beq i 0 then (fun s w => s177R_p1 K (s 4) w) else (fun _ _ => False)))) (X' := (fun i => (bif Nat.beq i 0 then (s177R_p1_den K) else (fun _ _ => False)))) (R := s177R_R K) (s := s) (w := w) (p := s177R_p28 K (s 0) (s 3) (s 4) (s 6) w) (q := s177R_p28_den K s w) (fun s w h => s177R_p27_ok K s w @h) (fun i => (tr_bif (fun s w h => s177R_p1_ok K s w @h) tr_id)) (by kernel_rfl) (by kernel_rfl) @h
def s177R_p29 (K : Value → World → Prop) (t0 t3 t4 t6 t12 : Value) (w : World) : Prop :=
  ifb t12
  (s177R_p4 K t0 t3 t4 w)
  (s177R_p28 K t0 t3 t4 t6 w)
def s177R_p29_den (K : Value → World → Prop) : (Nat → Value) → World → Prop := fun s w => ifb (ev s (.tmp 12)) ((s177R_p4_den K) s w) ((s177R_p28_den K) s w)
theorem s177R_p29_ok (K : Value → World → Prop) (s : Nat → Value) (w : World) (h : s177R_p29 K (s 0) (s 3) (s 4) (s 6) (s 12) w) : Tr (s177R_p29_den K s w) :=
  tr_cond (v := ev s (.tmp 12)) (a := (fun s w => s177R_p4 K (s 0) (s 3) (s 4) w) s w) (a' := (s177R_p4_den K) s w) (b := (fun s w => s177R_p28 K (s 0) (s 3) (s 4) (s 6) w) s w) (b' := (s177R_p28_den K) s w) (p := s177R_p29 K (s 0) (s 3) (s 4) (s 6) (s 12) w) (q := s177R_p29_den K s w) ((fun s w h => s177R_p4_ok K s w @h) s w) ((fun s w h => s177R_p28_ok K s w @h) s w) (by kernel_rfl) (by kernel_rfl) @h
def s177R_p30 (K : Value → World → Prop) (t0 t3 t4 t6 : Value) (w : World) : Prop :=
  boI .eql t6 (.int .u8 2) (fun t13 w =>
  s177R_p29 K t0 t3 t4 t6 t13 w) w
def s177R_p30_den (K : Value → World → Prop) : (Nat → Value) → World → Prop := denL Tryz.prog [(cd (Tryz.f177.body.getD .skip) [1, 0, 1, 0, 1, 1, 0])] (s177R_p29_den K) (fun i => (bif Nat.beq i 0 then (s177R_p1_den K) else (fun _ _ => False))) (s177R_R K)
theorem s177R_p30_ok (K : Value → World → Prop) (s : Nat → Value) (w : World) (h : s177R_p30 K (s 0) (s 3) (s 4) (s 6) w) : Tr (s177R_p30_den K s w) :=
  tr_simple (P := Tryz.prog) (codes := [(cd (Tryz.f177.body.getD .skip) [1, 0, 1, 0, 1, 1, 0])]) (N := (fun s w => s177R_p29 K (s 0) (s 3) (s 4) (s 6) (s 12) w)) (N' := (s177R_p29_den K)) (X := (fun i => (bif Nat.beq i 0 then (fun s w => s177R_p1 K (s 4) w) else (fun _ _ => False)))) (X' := (fun i => (bif Nat.beq i 0 then (s177R_p1_den K) else (fun _ _ => False)))) (R := s177R_R K) (s := s) (w := w) (p := s177R_p30 K (s 0) (s 3) (s 4) (s 6) w) (q := s177R_p30_den K s w) (fun s w h => s177R_p29_ok K s w @h) (fun i => (tr_bif (fun s w h => s177R_p1_ok K s w @h) tr_id)) (by kernel_rfl) (by kernel_rfl) @h
def s177R_p31 (K : Value → World → Prop) (t0 t3 t4 t6 t7 : Value) (w : World) : Prop :=
  ifb t7
  (s177R_p2 K t0 t3 t4 w)
  (s177R_p30 K t0 t3 t4 t6 w)
def s177R_p31_den (K : Value → World → Prop) : (Nat → Value) → World → Prop := fun s w => ifb (ev s (.tmp 7)) ((s177R_p2_den K) s w) ((s177R_p30_den K) s w)
theorem s177R_p31_ok (K : Value → World → Prop) (s : Nat → Value) (w : World) (h : s177R_p31 K (s 0) (s 3) (s 4) (s 6) (s 7) w) : Tr (s177R_p31_den K s w) :=
  tr_cond (v := ev s (.tmp 7)) (a := (fun s w => s177R_p2 K (s 0) (s 3) (s 4) w) s w) (a' := (s177R_p2_den K) s w) (b := (fun s w => s177R_p30 K (s 0) (s 3) (s 4) (s 6) w) s w) (b' := (s177R_p30_den K) s w) (p := s177R_p31 K (s 0) (s 3) (s 4) (s 6) (s 7) w) (q := s177R_p31_den K s w) ((fun s w h => s177R_p2_ok K s w @h) s w) ((fun s w h => s177R_p30_ok K s w @h) s w) (by kernel_rfl) (by kernel_rfl) @h
def s177R_p32 (K : Value → World → Prop) (t0 t3 t4 t6 : Value) (w : World) : Prop :=
  boI .eql t6 (.int .u8 1) (fun t8 w =>
  s177R_p31 K t0 t3 t4 t6 t8 w) w
def s177R_p32_den (K : Value → World → Prop) : (Nat → Value) → World → Prop := denL Tryz.prog [(cd (Tryz.f177.body.getD .skip) [1, 0, 1, 0, 0])] (s177R_p31_den K) (fun i => (bif Nat.beq i 0 then (s177R_p1_den K) else (fun _ _ => False))) (s177R_R K)
theorem s177R_p32_ok (K : Value → World → Prop) (s : Nat → Value) (w : World) (h : s177R_p32 K (s 0) (s 3) (s 4) (s 6) w) : Tr (s177R_p32_den K s w) :=
  tr_simple (P := Tryz.prog) (codes := [(cd (Tryz.f177.body.getD .skip) [1, 0, 1, 0, 0])]) (N := (fun s w => s177R_p31 K (s 0) (s 3) (s 4) (s 6) (s 7) w)) (N' := (s177R_p31_den K)) (X := (fun i => (bif Nat.beq i 0 then (fun s w => s177R_p1 K (s 4) w) else (fun _ _ => False)))) (X' := (fun i => (bif Nat.beq i 0 then (s177R_p1_den K) else (fun _ _ => False)))) (R := s177R_R K) (s := s) (w := w) (p := s177R_p32 K (s 0) (s 3) (s 4) (s 6) w) (q := s177R_p32_den K s w) (fun s w h => s177R_p31_ok K s w @h) (fun i => (tr_bif (fun s w h => s177R_p1_ok K s w @h) tr_id)) (by kernel_rfl) (by kernel_rfl) @h
def s177R_p33 (K : Value → World → Prop) (t0 t1 : Value) (w : World) : Prop :=
  nw 52 (t1).cells (fun t3 w =>
  nw 94 #[(.int .i64 0), (.int .u8 0), (.int .i64 0), (.int .i64 0), (.int .i64 0), (.int .i64 0), (.int .i64 0), (.slice none 0 0), (.int .i64 0), (.int .i64 0), (.int .i64 0), (.slice none 0 0), (.int .i64 0), (.int .i64 0), (.int .i64 0), (.int .i64 0), (.int .i64 0), (.int .i64 0), (.slice none 0 0), (.int .i64 0), (.int .i64 0), (.int .i64 0), (.int .i64 0), (.int .i64 0), (.int .i64 0), (.int .i64 0), (.int .i64 0), (.int .i64 0), (.int .i64 0), (.int .i64 0), (.int .i64 0), (.int .i64 0), (.int .i64 0), (.int .i64 0)] (fun t4 w =>
  fd 0 t3 (fun t5 w =>
  ld1 t5 (fun t6 w =>
  s177R_p32 K t0 t3 t4 t6 w) w) w) w) w
def s177R_p33_den (K : Value → World → Prop) : (Nat → Value) → World → Prop := denL Tryz.prog [(cd (Tryz.f177.body.getD .skip) [0]), (cd (Tryz.f177.body.getD .skip) [1, 0, 0])] (s177R_p32_den K) (fun i => (fun _ _ => False)) (s177R_R K)
theorem s177R_p33_ok (K : Value → World → Prop) (s : Nat → Value) (w : World) (h : s177R_p33 K (s 0) (s 1) w) : Tr (s177R_p33_den K s w) :=
  tr_simple (P := Tryz.prog) (codes := [(cd (Tryz.f177.body.getD .skip) [0]), (cd (Tryz.f177.body.getD .skip) [1, 0, 0])]) (N := (fun s w => s177R_p32 K (s 0) (s 3) (s 4) (s 6) w)) (N' := (s177R_p32_den K)) (X := (fun i => (fun _ _ => False))) (X' := (fun i => (fun _ _ => False))) (R := s177R_R K) (s := s) (w := w) (p := s177R_p33 K (s 0) (s 1) w) (q := s177R_p33_den K s w) (fun s w h => s177R_p32_ok K s w @h) (fun i => tr_id) (by kernel_rfl) (by kernel_rfl) @h
/-- the call, from the text -/
theorem c177R (t0 t1 : Value) {K : Value → World → Prop} {w : World} (h : s177R_p33 K t0 t1 w) : cl Tryz.prog 177 #[t0, t1] K w :=
  calls_of_tr (c := (Tryz.f177.body.getD .skip)) (fn := Tryz.f177) (q := s177R_p33_den K (st0 #[t0, t1]) w) Tryz.func177 (by kernel_rfl) (by kernel_rfl) (Nat.le_of_ble_eq_true (by kernel_rfl)) (by kernel_rfl) (by kernel_rfl) (s177R_p33_ok K (st0 #[t0, t1]) w @h)

/-! ### function 206 : (*e2e.engine.Engine).hold -/
def s206R_R (K : Value → World → Prop) (s : Nat → Value) (w : World) : Prop := retv Tryz.prog s Tryz.f206.results.toList (fun vs => K (pack vs) w) w
def s206R_p1 (K : Value → World → Prop) (t3 t4 t5 t6 : Value) (w : World) : Prop :=
  boI .neq t6 (.int .i64 0) (fun t26 w =>
  ifb t26
  (cl Tryz.prog 129 #[t6] (fun t28 w =>
  stn 34 t4 t28 (fun w =>
  ldn 34 t4 (fun r0 _ =>
  K r0 w) w) w) w)
  (fd 0 t3 (fun t29 w =>
  ld1 t29 (fun t30 w =>
  fd 0 t5 (fun t31 w =>
  ld1 t31 (fun t32 w =>
  fd 5 t5 (fun t33 w =>
  ld1 t33 (fun t34 w =>
  bdq [(.int .i64 0), (.int .u8 0), (.int .i64 0), (.int .i64 0), (.int .i64 0), (.int .i64 0), (.int .i64 0), (.slice none 0 0), (.int .i64 0), (.int .i64 0), (.int .i64 0), (.slice none 0 0), (.int .i64 0), (.int .i64 0), (.int .i64 0), (.int .i64 0), (.int .i64 0), (.int .i64 0), (.slice none 0 0), (.int .i64 0), (.int .i64 0), (.int .i64 0), (.int .i64 0), (.int .i64 0), (.int .i64 0), (.int .i64 0), (.int .i64 0), (.int .i64 0), (.int .i64 0), (.int .i64 0), (.int .i64 0), (.int .i64 0), (.int .i64 0), (.int .i64 0)] [(some (1, 1), t30), (some (2, 1), t32), (some (3, 1), t34)] (fun t35 w =>
  stn 34 t4 t35 (fun w =>
  ldn 34 t4 (fun r0 _ =>
  K r0 w) w) w) w) w) w) w) w) w) w)) w
def s206R_p1_den (K : Value → World → Prop) : (Nat → Value) → World → Prop := denL Tryz.prog [(cd (Tryz.f206.body.getD .skip) [1, 1, 0, 0]), (cd (Tryz.f206.body.getD .skip) [1, 1, 0, 1]), (cd (Tryz.f206.body.getD .skip) [1, 1, 1, 0]), (cd (Tryz.f206.body.getD .skip) [1, 1, 1, 1])] (fun _ _ => False) (fun i => (fun _ _ => False)) (s206R_R K)
theorem s206R_p1_ok (K : Value → World → Prop) (s : Nat → Value) (w : World) (h : s206R_p1 K (s 3) (s 4) (s 5) (s 6) w) : Tr (s206R_p1_den K s w) :=
  tr_simple (P := Tryz.prog) (codes := [(cd (Tryz.f206.body.getD .skip) [1, 1, 0, 0]), (cd (Tryz.f206.body.getD .skip) [1, 1, 0, 1]), (cd (Tryz.f206.body.getD .skip) [1, 1, 1, 0]), (cd (Tryz.f206.body.getD .skip) [1, 1, 1, 1])]) (N := (fun _ _ => False)) (N' := (fun _ _ => False)) (X := (fun i => (fun _ _ => False))) (X' := (fun i => (fun _ _ => False))) (R := s206R_R K) (s := s) (w := w) (p := s206R_p1 K (s 3) (s 4) (s 5) (s 6) w) (q := s206R_p1_den K s w) tr_id (fun i => tr_id) (by kernel_rfl) (by kernel_rfl) @h
def s206R_p2_d (K : Value → World → Prop) (J : World → Prop) (t0 t3 t4 : Value) (w0 w : World) : Prop :=
  nck t0 (fun t9 _ =>
  fd 15 t9 (fun t10 _ =>
  Go.Sh.R.qw J (ld1 t10) (fun t11 =>
  nck t0 (fun t13 _ =>
  fd 14 t13 (fun t14 _ =>
  Go.Sh.R.qw J (ld1 t14) (fun t15 =>
  fd 4 t3 (fun t16 _ =>
  Go.Sh.R.qw J (ld1 t16) (fun t17 =>
  fd 5 t3 (fun t18 _ =>
  Go.Sh.R.qw J (ld1 t18) (fun t19 =>
  fd 7 t3 (fun t20 _ =>
  Go.Sh.R.qw J (ld1 t20) (fun t21 =>
  (cl Tryz.prog 230 #[t11, t15, t17, t19, t21] (fun t22 w =>
  ((exq t22 0 (fun t23 w =>
  (exq t22 1 (fun t24 w =>
  nw 85 #[(.int .i64 0), (.int .i64 0), (.int .i64 0), (.int .i64 0), (.int .i64 0), (.int .i64 0), (.slice none 0 0)] (fun t5 w =>
  J w ∧
  stn 7 t5 t23 (fun w =>
  s206R_p1 K t3 t4 t5 t24 w) w) w) w) ∧
  (nw 85 #[(.int .i64 0), (.int .i64 0), (.int .i64 0), (.int .i64 0), (.int .i64 0), (.int .i64 0), (.slice none 0 0)] (fun t5_2 w =>
  J w ∧
  (exq t22 1 (fun t24_2 w =>
  stn 7 t5_2 t23 (fun w =>
  s206R_p1 K t3 t4 t5_2 t24_2 w) w) w) ∧
  (stn 7 t5_2 t23 (fun w =>
  exq t22 1 (fun t24_3 w =>
  s206R_p1 K t3 t4 t5_2 t24_3 w) w) w)) w)) w) ∧
  (exq t22 1 (fun t24_4 w =>
  (exq t22 0 (fun t23_2 w =>
  nw 85 #[(.int .i64 0), (.int .i64 0), (.int .i64 0), (.int .i64 0), (.int .i64 0), (.int .i64 0), (.slice none 0 0)] (fun t5_3 w =>
  J w ∧
  stn 7 t5_3 t23_2 (fun w =>
  s206R_p1 K t3 t4 t5_3 t24_4 w) w) w) w) ∧
  (nw 85 #[(.int .i64 0), (.int .i64 0), (.int .i64 0), (.int .i64 0), (.int .i64 0), (.int .i64 0), (.slice none 0 0)] (fun t5_4 w =>
  J w ∧
  exq t22 0 (fun t23_3 w =>
  stn 7 t5_4 t23_3 (fun w =>
  s206R_p1 K t3 t4 t5_4 t24_4 w) w) w) w)) w) ∧
  (nw 85 #[(.int .i64 0), (.int .i64 0), (.int .i64 0), (.int .i64 0), (.int .i64 0), (.int .i64 0), (.slice none 0 0)] (fun t5_5 w =>
  J w ∧
  (exq t22 0 (fun t23_4 w =>
  (exq t22 1 (fun t24_5 w =>
  stn 7 t5_5 t23_4 (fun w =>
  s206R_p1 K t3 t4 t5_5 t24_5 w) w) w) ∧
  (stn 7 t5_5 t23_4 (fun w =>
  exq t22 1 (fun t24_6 w =>
  s206R_p1 K t3 t4 t5_5 t24_6 w) w) w)) w) ∧
  (exq t22 1 (fun t24_7 w =>
  exq t22 0 (fun t23_5 w =>
  stn 7 t5_5 t23_5 (fun w =>
  s206R_p1 K t3 t4 t5_5 t24_7 w) w) w) w)) w)) ∧
  (nw 85 #[(.int .i64 0), (.int .i64 0), (.int .i64 0), (.int .i64 0), (.int .i64 0), (.int .i64 0), (.slice none 0 0)] (fun t5_6 w =>
  J w ∧
  (exq t22 0 (fun t23_6 w =>
  (exq t22 1 (fun t24_8 w =>
  stn 7 t5_6 t23_6 (fun w =>
  s206R_p1 K t3 t4 t5_6 t24_8 w) w) w) ∧
  (stn 7 t5_6 t23_6 (fun w =>
  exq t22 1 (fun t24_9 w =>
  s206R_p1 K t3 t4 t5_6 t24_9 w) w) w)) w) ∧
  (exq t22 1 (fun t24_10 w =>
  exq t22 0 (fun t23_7 w =>
  stn 7 t5_6 t23_7 (fun w =>
  s206R_p1 K t3 t4 t5_6 t24_10 w) w) w) w)) w)) w) ∧
  (nw 85 #[(.int .i64 0), (.int .i64 0), (.int .i64 0), (.int .i64 0), (.int .i64 0), (.int .i64 0), (.slice none 0 0)] (fun t5_7 w =>
  J w ∧
  cl Tryz.prog 230 #[t11, t15, t17, t19, t21] (fun t22_2 w =>
  (exq t22_2 0 (fun t23_8 w =>
  (exq t22_2 1 (fun t24_11 w =>
  stn 7 t5_7 t23_8 (fun w =>
  s206R_p1 K t3 t4 t5_7 t24_11 w) w) w) ∧
  (stn 7 t5_7 t23_8 (fun w =>
  exq t22_2 1 (fun t24_12 w =>
  s206R_p1 K t3 t4 t5_7 t24_12 w) w) w)) w) ∧
  (exq t22_2 1 (fun t24_13 w =>
  exq t22_2 0 (fun t23_9 w =>
  stn 7 t5_7 t23_9 (fun w =>
  s206R_p1 K t3 t4 t5_7 t24_13 w) w) w) w)) w) w))) w0)) w0)) w0)) w0) w0)) w0) w0
def s206R_p2 (K : Value → World → Prop) (t0 t3 t4 : Value) (w : World) : Prop := ∃ J : World → Prop, J (drw w) ∧ s206R_p2_d K J t0 t3 t4 (drw w) (drw w)
def s206R_p2_den (K : Value → World → Prop) : (Nat → Value) → World → Prop := denL Tryz.prog [(cd (Tryz.f206.body.getD .skip) [1, 0])] (s206R_p1_den K) (fun i => (fun _ _ => False)) (s206R_R K)
theorem s206R_p2_ok (K : Value → World → Prop) (s : Nat → Value) (w : World) (h : s206R_p2 K (s 0) (s 3) (s 4) w) : Tr (s206R_p2_den K s w) :=
  Go.Sh.R.tr_drawR (P := Tryz.prog) (ops := (ro (cd (Tryz.f206.body.getD .skip) [1, 0]))) (ms := [0, 1, 3, 7, 0, 16, 48, 112, 0, 256, 0, 1024, 0, 4096, 16383, 32767, 65535, 65535, 0, 393215, 1048575]) (cs := [0, 1, 2, 3, 4, 5, 6, 7, 8, 9, 10, 11, 12, 13]) (N := (fun s w => s206R_p1 K (s 3) (s 4) (s 5) (s 6) w)) (N' := (s206R_p1_den K)) (s := s) (w := w) (p := fun J => s206R_p2_d K J (s 0) (s 3) (s 4) (drw w) (drw w)) (q := s206R_p2_den K s w) (by kernel_rfl) (by kernel_rfl) (fun s w h => s206R_p1_ok K s w @h) (by kernel_rfl) (by kernel_rfl) @h
def s206R_p3 (K : Value → World → Prop) (t0 t1 : Value) (w : World) : Prop :=
  nw 52 (t1).cells (fun t3 w =>
  nw 94 #[(.int .i64 0), (.int .u8 0), (.int .i64 0), (.int .i64 0), (.int .i64 0), (.int .i64 0), (.int .i64 0), (.slice none 0 0), (.int .i64 0), (.int .i64 0), (.int .i64 0), (.slice none 0 0), (.int .i64 0), (.int .i64 0), (.int .i64 0), (.int .i64 0), (.int .i64 0), (.int .i64 0), (.slice none 0 0), (.int .i64 0), (.int .i64 0), (.int .i64 0), (.int .i64 0), (.int .i64 0), (.int .i64 0), (.int .i64 0), (.int .i64 0), (.int .i64 0), (.int .i64 0), (.int .i64 0), (.int .i64 0), (.int .i64 0), (.int .i64 0), (.int .i64 0)] (fun t4 w =>
  s206R_p2 K t0 t3 t4 w) w) w
def s206R_p3_den (K : Value → World → Prop) : (Nat → Value) → World → Prop := denL Tryz.prog [(cd (Tryz.f206.body.getD .skip) [0])] (s206R_p2_den K) (fun i => (fun _ _ => False)) (s206R_R K)
theorem s206R_p3_ok (K : Value → World → Prop) (s : Nat → Value) (w : World) (h : s206R_p3 K (s 0) (s 1) w) : Tr (s206R_p3_den K s w) :=
  tr_simple (P := Tryz.prog) (codes := [(cd (Tryz.f206.body.getD .skip) [0])]) (N := (fun s w => s206R_p2 K (s 0) (s 3) (s 4) w)) (N' := (s206R_p2_den K)) (X := (fun i => (fun _ _ => False))) (X' := (fun i => (fun _ _ => False))) (R := s206R_R K) (s := s) (w := w) (p := s206R_p3 K (s 0) (s 1) w) (q := s206R_p3_den K s w) (fun s w h => s206R_p2_ok K s w @h) (fun i => tr_id) (by kernel_rfl) (by kernel_rfl) @h
/-- the call, from the text -/
theorem c206R (t0 t1 : Value) {K : Value → World → Prop} {w : World} (h : s206R_p3 K t0 t1 w) : cl Tryz.prog 206 #[t0, t1] K w :=
  calls_of_tr (c := (Tryz.f206.body.getD .skip)) (fn := Tryz.f206) (q := s206R_p3_den K (st0 #[t0, t1]) w) Tryz.func206 (by kernel_rfl) (by kernel_rfl) (Nat.le_of_ble_eq_true (by kernel_rfl)) (by kernel_rfl) (by kernel_rfl) (s206R_p3_ok K (st0 #[t0, t1]) w @h)

end Go.Proofs.Qxb6500896aGreat
