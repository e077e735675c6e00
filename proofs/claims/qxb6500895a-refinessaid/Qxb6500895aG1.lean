import Derived.Test.Qxb6500895aProg
import Derived.Test.Qxb6500895aShTr
namespace Go.Proofs.Qxb6500895a
open Go.Sh Go.RowKit
set_option linter.unusedVariables false
set_option maxRecDepth 100000

/-! ### function 3 : e2e.disklaw.Refines -/
def s3_R (K : Value → World → Prop) (s : Nat → Value) (w : World) : Prop := retv Try.prog s Try.f3.results.toList (fun vs => K (pack vs) w) w
def s3_p1 (K : Value → World → Prop) (w : World) : Prop :=
  K (.bool true) w
def s3_p1_den (K : Value → World → Prop) : (Nat → Value) → World → Prop := denL Try.prog [(cd (Try.f3.body.getD .skip) [1, 1, 1, 1, 0]), (cd (Try.f3.body.getD .skip) [1, 1, 1, 1, 1])] (fun _ _ => False) (fun i => (fun _ _ => False)) (s3_R K)
theorem s3_p1_ok (K : Value → World → Prop) (s : Nat → Value) (w : World) (h : s3_p1 K w) : Tr (s3_p1_den K s w) :=
  tr_simple (P := Try.prog) (codes := [(cd (Try.f3.body.getD .skip) [1, 1, 1, 1, 0]), (cd (Try.f3.body.getD .skip) [1, 1, 1, 1, 1])]) (N := (fun _ _ => False)) (N' := (fun _ _ => False)) (X := (fun i => (fun _ _ => False))) (X' := (fun i => (fun _ _ => False))) (R := s3_R K) (s := s) (w := w) (p := s3_p1 K w) (q := s3_p1_den K s w) tr_id (fun i => tr_id) (by kernel_rfl) (by kernel_rfl) @h
def s3_p2 (K : Value → World → Prop) (B1 : List Value → World → Prop) (t3 t4 t16 t17 t18 : Value) (w : World) : Prop :=
  boI .lss t18 t17 (fun t19 w =>
  ifb t19
  (ixs 8 t16 t18 (fun t20 w =>
  ldn 8 t20 (fun t21 w =>
  nw 34 #[(.int .i64 0), (.int .i64 0), (.slice none 0 0), (.int .i64 0), (.int .i64 0), (.slice none 0 0), (.int .i64 0), (.int .i64 0)] (fun t6 w =>
  stn 8 t6 t21 (fun w =>
  ldn 8 t6 (fun t24 w =>
  cl Try.prog 14 #[t3, t24] (fun t25 w =>
  exq t25 0 (fun t26 w =>
  exq t25 1 (fun t27 w =>
  ldn 8 t6 (fun t30 w =>
  cl Try.prog 15 #[t4, t30] (fun t31 w =>
  exq t31 0 (fun t32 w =>
  exq t31 1 (fun t33 w =>
  boI .neq t26 t32 (fun t36 w =>
  ifb t36
  (K (.bool false) w)
  (fd 0 t6 (fun t37 w =>
  ld1 t37 (fun t38 w =>
  boI .eql t38 (.int .i64 1) (fun t39 w =>
  gd t39 true (fun K w => K t26 w) (fun t41 w =>
  gd t39 true (boI .eql t41 (.int .i64 0)) (fun t42 w =>
  pk t39 t42 (.bool false) (fun t43 w =>
  gd t43 true (fun K w => K t27 w) (fun t45 w =>
  gd t43 true (fun K w => K t33 w) (fun t46 w =>
  gd t43 true (cl Try.prog 16 #[t45, t46]) (fun t47 w =>
  gd t43 true (un .not t47) (fun t48 w =>
  pk t43 t48 (.bool false) (fun t49 w =>
  ifb t49
  (K (.bool false) w)
  (cl Try.prog 18 #[t3] (fun t51 w =>
  cl Try.prog 19 #[t4] (fun t53 w =>
  cl Try.prog 17 #[t51, t53] (fun t54 w =>
  un .not t54 (fun t55 w =>
  ifb t55
  (K (.bool false) w)
  (boI .add t18 (.int .i64 1) (fun t56 w =>
  B1 [t3, t4, t16, t17, t56] w) w)) w) w) w) w)) w) w) w) w) w) w) w) w) w) w) w)) w) w) w) w) w) w) w) w) w) w) w) w) w)
  (s3_p1 K w)) w
def s3_p2_den (K : Value → World → Prop) (M1 : (Nat → Value) → World → Prop) : (Nat → Value) → World → Prop := denL Try.prog [(cd (Try.f3.body.getD .skip) [1, 1, 1, 0, 1, 0, 0, 0]), (cd (Try.f3.body.getD .skip) [1, 1, 1, 0, 1, 0, 0, 1, 0]), (cd (Try.f3.body.getD .skip) [1, 1, 1, 0, 1, 0, 0, 1, 1, 0]), (cd (Try.f3.body.getD .skip) [1, 1, 1, 0, 1, 0, 0, 1, 1, 1])] M1 (fun i => (bif Nat.beq i 0 then (s3_p1_den K) else (fun _ _ => False))) (s3_R K)
theorem s3_p2_ok (K : Value → World → Prop) (B1 : List Value → World → Prop) (s : Nat → Value) (w : World) (h : s3_p2 K B1 (s 3) (s 4) (s 16) (s 17) (s 18) w) : Tr (s3_p2_den K (fun s w => B1 [s 3, s 4, s 16, s 17, s 18] w) s w) :=
  tr_simple (P := Try.prog) (codes := [(cd (Try.f3.body.getD .skip) [1, 1, 1, 0, 1, 0, 0, 0]), (cd (Try.f3.body.getD .skip) [1, 1, 1, 0, 1, 0, 0, 1, 0]), (cd (Try.f3.body.getD .skip) [1, 1, 1, 0, 1, 0, 0, 1, 1, 0]), (cd (Try.f3.body.getD .skip) [1, 1, 1, 0, 1, 0, 0, 1, 1, 1])]) (N := (fun s w => B1 [s 3, s 4, s 16, s 17, s 18] w)) (N' := (fun s w => B1 [s 3, s 4, s 16, s 17, s 18] w)) (X := (fun i => (bif Nat.beq i 0 then (fun s w => s3_p1 K w) else (fun _ _ => False)))) (X' := (fun i => (bif Nat.beq i 0 then (s3_p1_den K) else (fun _ _ => False)))) (R := s3_R K) (s := s) (w := w) (p := s3_p2 K B1 (s 3) (s 4) (s 16) (s 17) (s 18) w) (q := s3_p2_den K (fun s w => B1 [s 3, s 4, s 16, s 17, s 18] w) s w) tr_id (fun i => (tr_bif (fun s w h => s3_p1_ok K s w @h) tr_id)) (by kernel_rfl) (by kernel_rfl) @h
def s3_p3_F (K : Value → World → Prop) (B1 : List Value → World → Prop) (l : List Value) (w : World) : Prop :=
  match l with
  | [t3, t4, t16, t17, t18] => s3_p2 K B1 t3 t4 t16 t17 t18 w
  | _ => False
theorem s3_p3_Fe {K : Value → World → Prop} {B1 : List Value → World → Prop} {t3 t4 t16 t17 t18 : Value} {w : World} : s3_p3_F K B1 [t3, t4, t16, t17, t18] w = s3_p2 K B1 t3 t4 t16 t17 t18 w := by kernel_rfl
def s3_p3 (K : Value → World → Prop) (t3 t4 t16 t17 t18 : Value) (w : World) : Prop :=
  LoopL (s3_p3_F K) [t3, t4, t16, t17, t18] w
def s3_p3_den (K : Value → World → Prop) : (Nat → Value) → World → Prop := fun s w => LoopP (fun M1 s w => s3_p2_den K M1 s w) s w
theorem s3_p3_ok (K : Value → World → Prop) (s : Nat → Value) (w : World) (h : s3_p3 K (s 3) (s 4) (s 16) (s 17) (s 18) w) : Tr (s3_p3_den K s w) :=
  tr_loop (G := fun N' s w => s3_p2_den K N' s w) (F := s3_p3_F K) (sel := fun s => [s 3, s 4, s 16, s 17, s 18]) (s := s) (w := w) (p := s3_p3 K (s 3) (s 4) (s 16) (s 17) (s 18) w) (q := s3_p3_den K s w) (fun B s w h => s3_p2_ok K B s w @h) (by kernel_rfl) (by kernel_rfl) @h
def s3_p4 (K : Value → World → Prop) (t0 : Value) (w : World) : Prop :=
  cl Try.prog 11 #[t0] (fun t12 w =>
  un .not t12 (fun t13 w =>
  ifb t13
  (K (.bool true) w)
  (cl Try.prog 12 #[] (fun t14 w =>
  cl Try.prog 13 #[] (fun t15 w =>
  lnS t0 (fun t17 w =>
  s3_p3 K t14 t15 t0 t17 (.int .i64 0) w) w) w) w)) w) w
def s3_p4_den (K : Value → World → Prop) : (Nat → Value) → World → Prop := denL Try.prog [(cd (Try.f3.body.getD .skip) [0]), (cd (Try.f3.body.getD .skip) [1, 0, 0]), (cd (Try.f3.body.getD .skip) [1, 0, 1]), (cd (Try.f3.body.getD .skip) [1, 1, 0]), (cd (Try.f3.body.getD .skip) [1, 1, 1, 0, 0])] (s3_p3_den K) (fun i => (fun _ _ => False)) (s3_R K)
theorem s3_p4_ok (K : Value → World → Prop) (s : Nat → Value) (w : World) (h : s3_p4 K (s 0) w) : Tr (s3_p4_den K s w) :=
  tr_simple (P := Try.prog) (codes := [(cd (Try.f3.body.getD .skip) [0]), (cd (Try.f3.body.getD .skip) [1, 0, 0]), (cd (Try.f3.body.getD .skip) [1, 0, 1]), (cd (Try.f3.body.getD .skip) [1, 1, 0]), (cd (Try.f3.body.getD .skip) [1, 1, 1, 0, 0])]) (N := (fun s w => s3_p3 K (s 3) (s 4) (s 16) (s 17) (s 18) w)) (N' := (s3_p3_den K)) (X := (fun i => (fun _ _ => False))) (X' := (fun i => (fun _ _ => False))) (R := s3_R K) (s := s) (w := w) (p := s3_p4 K (s 0) w) (q := s3_p4_den K s w) (fun s w h => s3_p3_ok K s w @h) (fun i => tr_id) (by kernel_rfl) (by kernel_rfl) @h
/-- the call, from the text -/
theorem c3 (t0 : Value) {K : Value → World → Prop} {w : World} (h : s3_p4 K t0 w) : cl Try.prog 3 #[t0] K w :=
  calls_of_tr (c := (Try.f3.body.getD .skip)) (fn := Try.f3) (q := s3_p4_den K (st0 #[t0]) w) Try.func3 (by kernel_rfl) (by kernel_rfl) (Nat.le_of_ble_eq_true (by kernel_rfl)) (by kernel_rfl) (by kernel_rfl) (s3_p4_ok K (st0 #[t0]) w @h)

/-! ### function 4 : e2e.disklaw.ReadReturnsLastWrite -/
def s4_R (K : Value → World → Prop) (s : Nat → Value) (w : World) : Prop := retv Try.prog s Try.f4.results.toList (fun vs => K (pack vs) w) w
def s4_p1 (K : Value → World → Prop) (w : World) : Prop :=
  K (.bool true) w
def s4_p1_den (K : Value → World → Prop) : (Nat → Value) → World → Prop := denL Try.prog [(cd (Try.f4.body.getD .skip) [1, 1, 1, 1, 1, 1, 0]), (cd (Try.f4.body.getD .skip) [1, 1, 1, 1, 1, 1, 1])] (fun _ _ => False) (fun i => (fun _ _ => False)) (s4_R K)
theorem s4_p1_ok (K : Value → World → Prop) (s : Nat → Value) (w : World) (h : s4_p1 K w) : Tr (s4_p1_den K s w) :=
  tr_simple (P := Try.prog) (codes := [(cd (Try.f4.body.getD .skip) [1, 1, 1, 1, 1, 1, 0]), (cd (Try.f4.body.getD .skip) [1, 1, 1, 1, 1, 1, 1])]) (N := (fun _ _ => False)) (N' := (fun _ _ => False)) (X := (fun i => (fun _ _ => False))) (X' := (fun i => (fun _ _ => False))) (R := s4_R K) (s := s) (w := w) (p := s4_p1 K w) (q := s4_p1_den K s w) tr_id (fun i => tr_id) (by kernel_rfl) (by kernel_rfl) @h
def s4_p2 (K : Value → World → Prop) (B1 : List Value → World → Prop) (t3 t4 t21 t22 t23 : Value) (w : World) : Prop :=
  boI .add t23 (.int .i64 1) (fun t68 w =>
  B1 [t3, t4, t21, t22, t68] w) w
def s4_p2_den (K : Value → World → Prop) (M1 : (Nat → Value) → World → Prop) : (Nat → Value) → World → Prop := denL Try.prog [(cd (Try.f4.body.getD .skip) [1, 1, 1, 1, 1, 0, 1, 0, 0, 1, 1, 1])] M1 (fun i => (bif Nat.beq i 2 then (s4_p1_den K) else (fun _ _ => False))) (s4_R K)
theorem s4_p2_ok (K : Value → World → Prop) (B1 : List Value → World → Prop) (s : Nat → Value) (w : World) (h : s4_p2 K B1 (s 3) (s 4) (s 21) (s 22) (s 23) w) : Tr (s4_p2_den K (fun s w => B1 [s 3, s 4, s 21, s 22, s 23] w) s w) :=
  tr_simple (P := Try.prog) (codes := [(cd (Try.f4.body.getD .skip) [1, 1, 1, 1, 1, 0, 1, 0, 0, 1, 1, 1])]) (N := (fun s w => B1 [s 3, s 4, s 21, s 22, s 23] w)) (N' := (fun s w => B1 [s 3, s 4, s 21, s 22, s 23] w)) (X := (fun i => (bif Nat.beq i 2 then (fun s w => s4_p1 K w) else (fun _ _ => False)))) (X' := (fun i => (bif Nat.beq i 2 then (s4_p1_den K) else (fun _ _ => False)))) (R := s4_R K) (s := s) (w := w) (p := s4_p2 K B1 (s 3) (s 4) (s 21) (s 22) (s 23) w) (q := s4_p2_den K (fun s w => B1 [s 3, s 4, s 21, s 22, s 23] w) s w) tr_id (fun i => (tr_bif (fun s w h => s4_p1_ok K s w @h) tr_id)) (by kernel_rfl) (by kernel_rfl) @h
def s4_p3_d (K : Value → World → Prop) (B1 : List Value → World → Prop) (t3 t4 t7 t21 t22 t23 : Value) (w0 w : World) : Prop :=
  fd 1 t7 (fun t42 _ =>
  ld1 t42 (fun t43 _ =>
  fd 2 t7 (fun t44 _ =>
  ld1 t44 (fun t45 _ =>
  ixa 12 1 t4 t43 (fun t47 _ =>
  cl Try.prog 21 #[t45] (fun t46 w =>
  Below w0.heap.size w0 w ∧
  st1 t47 t46 (fun w =>
  s4_p2 K B1 t3 t4 t21 t22 t23 w) w) w) w0) w0) w0) w0) w0
def s4_p3 (K : Value → World → Prop) (B1 : List Value → World → Prop) (t3 t4 t7 t21 t22 t23 : Value) (w : World) : Prop := s4_p3_d K B1 t3 t4 t7 t21 t22 t23 (drw w) (drw w)
def s4_p3_den (K : Value → World → Prop) (M1 : (Nat → Value) → World → Prop) : (Nat → Value) → World → Prop := denL Try.prog [(cd (Try.f4.body.getD .skip) [1, 1, 1, 1, 1, 0, 1, 0, 0, 1, 1, 0, 0, 1, 1, 1, 1, 1, 0, 1, 0])] (s4_p2_den K M1) (fun i => (bif Nat.beq i 4 then (s4_p2_den K M1) else (bif Nat.beq i 3 then (s4_p2_den K M1) else (bif Nat.beq i 2 then (s4_p1_den K) else (fun _ _ => False))))) (s4_R K)
theorem s4_p3_ok (K : Value → World → Prop) (B1 : List Value → World → Prop) (s : Nat → Value) (w : World) (h : s4_p3 K B1 (s 3) (s 4) (s 7) (s 21) (s 22) (s 23) w) : Tr (s4_p3_den K (fun s w => B1 [s 3, s 4, s 21, s 22, s 23] w) s w) :=
  tr_draw (P := Try.prog) (ops := (ro (cd (Try.f4.body.getD .skip) [1, 1, 1, 1, 1, 0, 1, 0, 0, 1, 1, 0, 0, 1, 1, 1, 1, 1, 0, 1, 0]))) (ms := [0, 1, 0, 4, 12, 31, 63]) (cs := [0, 1, 2, 3, 5]) (N := (fun s w => s4_p2 K B1 (s 3) (s 4) (s 21) (s 22) (s 23) w)) (N' := (s4_p2_den K (fun s w => B1 [s 3, s 4, s 21, s 22, s 23] w))) (s := s) (w := w) (p := s4_p3 K B1 (s 3) (s 4) (s 7) (s 21) (s 22) (s 23) w) (q := s4_p3_den K (fun s w => B1 [s 3, s 4, s 21, s 22, s 23] w) s w) (by kernel_rfl) (by kernel_rfl) (fun s w h => s4_p2_ok K B1 s w @h) (by kernel_rfl) (by kernel_rfl) @h
def s4_p4 (K : Value → World → Prop) (B1 : List Value → World → Prop) (t3 t4 t7 t9 t21 t22 t23 t39 : Value) (w : World) : Prop :=
  boI .eql t39 (.int .i64 1) (fun t49 w =>
  ifb t49
  (fd 1 t7 (fun t50 w =>
  ld1 t50 (fun t51 w =>
  ixa 12 1 t4 t51 (fun t52 w =>
  ld1 t52 (fun t53 w =>
  boZ .neq t53 (.slice none 0 0) (fun t54 w =>
  gd t54 true (fun K w => K t9 w) (fun t56 w =>
  gd t54 true (fd 1 t7) (fun t57 w =>
  gd t54 true (ld1 t57) (fun t58 w =>
  gd t54 true (ixa 12 1 t4 t58) (fun t59 w =>
  gd t54 true (ld1 t59) (fun t60 w =>
  gd t54 true (cl Try.prog 16 #[t56, t60]) (fun t61 w =>
  gd t54 true (un .not t61) (fun t62 w =>
  pk t54 t62 (.bool false) (fun t63 w =>
  ifb t63
  (K (.bool false) w)
  (fd 1 t7 (fun t64 w =>
  ld1 t64 (fun t65 w =>
  ixa 12 1 t4 t65 (fun t67 w =>
  st1 t67 t9 (fun w =>
  s4_p2 K B1 t3 t4 t21 t22 t23 w) w) w) w) w)) w) w) w) w) w) w) w) w) w) w) w) w) w)
  (s4_p2 K B1 t3 t4 t21 t22 t23 w)) w
def s4_p4_den (K : Value → World → Prop) (M1 : (Nat → Value) → World → Prop) : (Nat → Value) → World → Prop := denL Try.prog [(cd (Try.f4.body.getD .skip) [1, 1, 1, 1, 1, 0, 1, 0, 0, 1, 1, 0, 0, 1, 1, 1, 1, 1, 0, 1, 1, 0]), (cd (Try.f4.body.getD .skip) [1, 1, 1, 1, 1, 0, 1, 0, 0, 1, 1, 0, 0, 1, 1, 1, 1, 1, 0, 1, 1, 1])] (s4_p2_den K M1) (fun i => (bif Nat.beq i 4 then (s4_p2_den K M1) else (bif Nat.beq i 3 then (s4_p2_den K M1) else (bif Nat.beq i 2 then (s4_p1_den K) else (fun _ _ => False))))) (s4_R K)
theorem s4_p4_ok (K : Value → World → Prop) (B1 : List Value → World → Prop) (s : Nat → Value) (w : World) (h : s4_p4 K B1 (s 3) (s 4) (s 7) (s 9) (s 21) (s 22) (s 23) (s 39) w) : Tr (s4_p4_den K (fun s w => B1 [s 3, s 4, s 21, s 22, s 23] w) s w) :=
  tr_simple (P := Try.prog) (codes := [(cd (Try.f4.body.getD .skip) [1, 1, 1, 1, 1, 0, 1, 0, 0, 1, 1, 0, 0, 1, 1, 1, 1, 1, 0, 1, 1, 0]), (cd (Try.f4.body.getD .skip) [1, 1, 1, 1, 1, 0, 1, 0, 0, 1, 1, 0, 0, 1, 1, 1, 1, 1, 0, 1, 1, 1])]) (N := (fun s w => s4_p2 K B1 (s 3) (s 4) (s 21) (s 22) (s 23) w)) (N' := (s4_p2_den K (fun s w => B1 [s 3, s 4, s 21, s 22, s 23] w))) (X := (fun i => (bif Nat.beq i 4 then (fun s w => s4_p2 K B1 (s 3) (s 4) (s 21) (s 22) (s 23) w) else (bif Nat.beq i 3 then (fun s w => s4_p2 K B1 (s 3) (s 4) (s 21) (s 22) (s 23) w) else (bif Nat.beq i 2 then (fun s w => s4_p1 K w) else (fun _ _ => False)))))) (X' := (fun i => (bif Nat.beq i 4 then (s4_p2_den K (fun s w => B1 [s 3, s 4, s 21, s 22, s 23] w)) else (bif Nat.beq i 3 then (s4_p2_den K (fun s w => B1 [s 3, s 4, s 21, s 22, s 23] w)) else (bif Nat.beq i 2 then (s4_p1_den K) else (fun _ _ => False)))))) (R := s4_R K) (s := s) (w := w) (p := s4_p4 K B1 (s 3) (s 4) (s 7) (s 9) (s 21) (s 22) (s 23) (s 39) w) (q := s4_p4_den K (fun s w => B1 [s 3, s 4, s 21, s 22, s 23] w) s w) (fun s w h => s4_p2_ok K B1 s w @h) (fun i => (tr_bif (fun s w h => s4_p2_ok K B1 s w @h) (tr_bif (fun s w h => s4_p2_ok K B1 s w @h) (tr_bif (fun s w h => s4_p1_ok K s w @h) tr_id)))) (by kernel_rfl) (by kernel_rfl) @h
def s4_p5 (K : Value → World → Prop) (B1 : List Value → World → Prop) (t3 t4 t7 t9 t21 t22 t23 t39 t40 : Value) (w : World) : Prop :=
  ifb t40
  (s4_p3 K B1 t3 t4 t7 t21 t22 t23 w)
  (s4_p4 K B1 t3 t4 t7 t9 t21 t22 t23 t39 w)
def s4_p5_den (K : Value → World → Prop) (M1 : (Nat → Value) → World → Prop) : (Nat → Value) → World → Prop := fun s w => ifb (ev s (.tmp 40)) ((s4_p3_den K M1) s w) ((s4_p4_den K M1) s w)
theorem s4_p5_ok (K : Value → World → Prop) (B1 : List Value → World → Prop) (s : Nat → Value) (w : World) (h : s4_p5 K B1 (s 3) (s 4) (s 7) (s 9) (s 21) (s 22) (s 23) (s 39) (s 40) w) : Tr (s4_p5_den K (fun s w => B1 [s 3, s 4, s 21, s 22, s 23] w) s w) :=
  tr_cond (v := ev s (.tmp 40)) (a := (fun s w => s4_p3 K B1 (s 3) (s 4) (s 7) (s 21) (s 22) (s 23) w) s w) (a' := (s4_p3_den K (fun s w => B1 [s 3, s 4, s 21, s 22, s 23] w)) s w) (b := (fun s w => s4_p4 K B1 (s 3) (s 4) (s 7) (s 9) (s 21) (s 22) (s 23) (s 39) w) s w) (b' := (s4_p4_den K (fun s w => B1 [s 3, s 4, s 21, s 22, s 23] w)) s w) (p := s4_p5 K B1 (s 3) (s 4) (s 7) (s 9) (s 21) (s 22) (s 23) (s 39) (s 40) w) (q := s4_p5_den K (fun s w => B1 [s 3, s 4, s 21, s 22, s 23] w) s w) ((fun s w h => s4_p3_ok K B1 s w @h) s w) ((fun s w h => s4_p4_ok K B1 s w @h) s w) (by kernel_rfl) (by kernel_rfl) @h
def s4_p6 (K : Value → World → Prop) (B1 : List Value → World → Prop) (t3 t4 t7 t9 t21 t22 t23 t39 : Value) (w : World) : Prop :=
  boI .eql t39 (.int .i64 0) (fun t41 w =>
  s4_p5 K B1 t3 t4 t7 t9 t21 t22 t23 t39 t41 w) w
def s4_p6_den (K : Value → World → Prop) (M1 : (Nat → Value) → World → Prop) : (Nat → Value) → World → Prop := denL Try.prog [(cd (Try.f4.body.getD .skip) [1, 1, 1, 1, 1, 0, 1, 0, 0, 1, 1, 0, 0, 1, 1, 1, 1, 1, 0, 0])] (s4_p5_den K M1) (fun i => (bif Nat.beq i 4 then (s4_p2_den K M1) else (bif Nat.beq i 3 then (s4_p2_den K M1) else (bif Nat.beq i 2 then (s4_p1_den K) else (fun _ _ => False))))) (s4_R K)
theorem s4_p6_ok (K : Value → World → Prop) (B1 : List Value → World → Prop) (s : Nat → Value) (w : World) (h : s4_p6 K B1 (s 3) (s 4) (s 7) (s 9) (s 21) (s 22) (s 23) (s 39) w) : Tr (s4_p6_den K (fun s w => B1 [s 3, s 4, s 21, s 22, s 23] w) s w) :=
  tr_simple (P := Try.prog) (codes := [(cd (Try.f4.body.getD .skip) [1, 1, 1, 1, 1, 0, 1, 0, 0, 1, 1, 0, 0, 1, 1, 1, 1, 1, 0, 0])]) (N := (fun s w => s4_p5 K B1 (s 3) (s 4) (s 7) (s 9) (s 21) (s 22) (s 23) (s 39) (s 40) w)) (N' := (s4_p5_den K (fun s w => B1 [s 3, s 4, s 21, s 22, s 23] w))) (X := (fun i => (bif Nat.beq i 4 then (fun s w => s4_p2 K B1 (s 3) (s 4) (s 21) (s 22) (s 23) w) else (bif Nat.beq i 3 then (fun s w => s4_p2 K B1 (s 3) (s 4) (s 21) (s 22) (s 23) w) else (bif Nat.beq i 2 then (fun s w => s4_p1 K w) else (fun _ _ => False)))))) (X' := (fun i => (bif Nat.beq i 4 then (s4_p2_den K (fun s w => B1 [s 3, s 4, s 21, s 22, s 23] w)) else (bif Nat.beq i 3 then (s4_p2_den K (fun s w => B1 [s 3, s 4, s 21, s 22, s 23] w)) else (bif Nat.beq i 2 then (s4_p1_den K) else (fun _ _ => False)))))) (R := s4_R K) (s := s) (w := w) (p := s4_p6 K B1 (s 3) (s 4) (s 7) (s 9) (s 21) (s 22) (s 23) (s 39) w) (q := s4_p6_den K (fun s w => B1 [s 3, s 4, s 21, s 22, s 23] w) s w) (fun s w h => s4_p5_ok K B1 s w @h) (fun i => (tr_bif (fun s w h => s4_p2_ok K B1 s w @h) (tr_bif (fun s w h => s4_p2_ok K B1 s w @h) (tr_bif (fun s w h => s4_p1_ok K s w @h) tr_id)))) (by kernel_rfl) (by kernel_rfl) @h
def s4_p7 (K : Value → World → Prop) (B1 : List Value → World → Prop) (t3 t4 t21 t22 t23 : Value) (w : World) : Prop :=
  ixs 8 t21 t23 (fun t25 w =>
  ldn 8 t25 (fun t26 w =>
  nw 34 #[(.int .i64 0), (.int .i64 0), (.slice none 0 0), (.int .i64 0), (.int .i64 0), (.slice none 0 0), (.int .i64 0), (.int .i64 0)] (fun t7 w =>
  stn 8 t7 t26 (fun w =>
  ldn 8 t7 (fun t29 w =>
  cl Try.prog 14 #[t3, t29] (fun t30 w =>
  exq t30 0 (fun t31 w =>
  exq t30 1 (fun t32 w =>
  cl Try.prog 20 #[t3] (fun t34 w =>
  ifb t34
  (bdq [(.slice none 0 0), (.slice none 0 0), (.slice none 0 0), (.slice none 0 0), (.slice none 0 0), (.slice none 0 0), (.slice none 0 0), (.slice none 0 0), (.slice none 0 0), (.slice none 0 0), (.slice none 0 0), (.slice none 0 0)] [] (fun t35 w =>
  stn 12 t4 t35 (fun w =>
  s4_p2 K B1 t3 t4 t21 t22 t23 w) w) w)
  (boI .neq t31 (.int .i64 0) (fun t37 w =>
  ifb t37
  (s4_p2 K B1 t3 t4 t21 t22 t23 w)
  (fd 0 t7 (fun t38 w =>
  ld1 t38 (fun t39 w =>
  s4_p6 K B1 t3 t4 t7 t32 t21 t22 t23 t39 w) w) w)) w)) w) w) w) w) w) w) w) w) w
def s4_p7_den (K : Value → World → Prop) (M1 : (Nat → Value) → World → Prop) : (Nat → Value) → World → Prop := denL Try.prog [(cd (Try.f4.body.getD .skip) [1, 1, 1, 1, 1, 0, 1, 0, 0, 1, 1, 0, 0, 0]), (cd (Try.f4.body.getD .skip) [1, 1, 1, 1, 1, 0, 1, 0, 0, 1, 1, 0, 0, 1, 0]), (cd (Try.f4.body.getD .skip) [1, 1, 1, 1, 1, 0, 1, 0, 0, 1, 1, 0, 0, 1, 1, 0, 0]), (cd (Try.f4.body.getD .skip) [1, 1, 1, 1, 1, 0, 1, 0, 0, 1, 1, 0, 0, 1, 1, 0, 1]), (cd (Try.f4.body.getD .skip) [1, 1, 1, 1, 1, 0, 1, 0, 0, 1, 1, 0, 0, 1, 1, 1, 0, 0]), (cd (Try.f4.body.getD .skip) [1, 1, 1, 1, 1, 0, 1, 0, 0, 1, 1, 0, 0, 1, 1, 1, 0, 1]), (cd (Try.f4.body.getD .skip) [1, 1, 1, 1, 1, 0, 1, 0, 0, 1, 1, 0, 0, 1, 1, 1, 1, 0])] (s4_p6_den K M1) (fun i => (bif Nat.beq i 3 then (s4_p2_den K M1) else (bif Nat.beq i 2 then (s4_p1_den K) else (fun _ _ => False)))) (s4_R K)
theorem s4_p7_ok (K : Value → World → Prop) (B1 : List Value → World → Prop) (s : Nat → Value) (w : World) (h : s4_p7 K B1 (s 3) (s 4) (s 21) (s 22) (s 23) w) : Tr (s4_p7_den K (fun s w => B1 [s 3, s 4, s 21, s 22, s 23] w) s w) :=
  tr_simple (P := Try.prog) (codes := [(cd (Try.f4.body.getD .skip) [1, 1, 1, 1, 1, 0, 1, 0, 0, 1, 1, 0, 0, 0]), (cd (Try.f4.body.getD .skip) [1, 1, 1, 1, 1, 0, 1, 0, 0, 1, 1, 0, 0, 1, 0]), (cd (Try.f4.body.getD .skip) [1, 1, 1, 1, 1, 0, 1, 0, 0, 1, 1, 0, 0, 1, 1, 0, 0]), (cd (Try.f4.body.getD .skip) [1, 1, 1, 1, 1, 0, 1, 0, 0, 1, 1, 0, 0, 1, 1, 0, 1]), (cd (Try.f4.body.getD .skip) [1, 1, 1, 1, 1, 0, 1, 0, 0, 1, 1, 0, 0, 1, 1, 1, 0, 0]), (cd (Try.f4.body.getD .skip) [1, 1, 1, 1, 1, 0, 1, 0, 0, 1, 1, 0, 0, 1, 1, 1, 0, 1]), (cd (Try.f4.body.getD .skip) [1, 1, 1, 1, 1, 0, 1, 0, 0, 1, 1, 0, 0, 1, 1, 1, 1, 0])]) (N := (fun s w => s4_p6 K B1 (s 3) (s 4) (s 7) (s 9) (s 21) (s 22) (s 23) (s 39) w)) (N' := (s4_p6_den K (fun s w => B1 [s 3, s 4, s 21, s 22, s 23] w))) (X := (fun i => (bif Nat.beq i 3 then (fun s w => s4_p2 K B1 (s 3) (s 4) (s 21) (s 22) (s 23) w) else (bif Nat.beq i 2 then (fun s w => s4_p1 K w) else (fun _ _ => False))))) (X' := (fun i => (bif Nat.beq i 3 then (s4_p2_den K (fun s w => B1 [s 3, s 4, s 21, s 22, s 23] w)) else (bif Nat.beq i 2 then (s4_p1_den K) else (fun _ _ => False))))) (R := s4_R K) (s := s) (w := w) (p := s4_p7 K B1 (s 3) (s 4) (s 21) (s 22) (s 23) w) (q := s4_p7_den K (fun s w => B1 [s 3, s 4, s 21, s 22, s 23] w) s w) (fun s w h => s4_p6_ok K B1 s w @h) (fun i => (tr_bif (fun s w h => s4_p2_ok K B1 s w @h) (tr_bif (fun s w h => s4_p1_ok K s w @h) tr_id))) (by kernel_rfl) (by kernel_rfl) @h
def s4_p8 (K : Value → World → Prop) (B1 : List Value → World → Prop) (t3 t4 t21 t22 t23 : Value) (w : World) : Prop :=
  boI .lss t23 t22 (fun t24 w =>
  ifb t24
  (s4_p7 K B1 t3 t4 t21 t22 t23 w)
  (s4_p1 K w)) w
def s4_p8_den (K : Value → World → Prop) (M1 : (Nat → Value) → World → Prop) : (Nat → Value) → World → Prop := denL Try.prog [(cd (Try.f4.body.getD .skip) [1, 1, 1, 1, 1, 0, 1, 0, 0, 0]), (cd (Try.f4.body.getD .skip) [1, 1, 1, 1, 1, 0, 1, 0, 0, 1, 0])] (s4_p7_den K M1) (fun i => (bif Nat.beq i 2 then (s4_p1_den K) else (fun _ _ => False))) (s4_R K)
theorem s4_p8_ok (K : Value → World → Prop) (B1 : List Value → World → Prop) (s : Nat → Value) (w : World) (h : s4_p8 K B1 (s 3) (s 4) (s 21) (s 22) (s 23) w) : Tr (s4_p8_den K (fun s w => B1 [s 3, s 4, s 21, s 22, s 23] w) s w) :=
  tr_simple (P := Try.prog) (codes := [(cd (Try.f4.body.getD .skip) [1, 1, 1, 1, 1, 0, 1, 0, 0, 0]), (cd (Try.f4.body.getD .skip) [1, 1, 1, 1, 1, 0, 1, 0, 0, 1, 0])]) (N := (fun s w => s4_p7 K B1 (s 3) (s 4) (s 21) (s 22) (s 23) w)) (N' := (s4_p7_den K (fun s w => B1 [s 3, s 4, s 21, s 22, s 23] w))) (X := (fun i => (bif Nat.beq i 2 then (fun s w => s4_p1 K w) else (fun _ _ => False)))) (X' := (fun i => (bif Nat.beq i 2 then (s4_p1_den K) else (fun _ _ => False)))) (R := s4_R K) (s := s) (w := w) (p := s4_p8 K B1 (s 3) (s 4) (s 21) (s 22) (s 23) w) (q := s4_p8_den K (fun s w => B1 [s 3, s 4, s 21, s 22, s 23] w) s w) (fun s w h => s4_p7_ok K B1 s w @h) (fun i => (tr_bif (fun s w h => s4_p1_ok K s w @h) tr_id)) (by kernel_rfl) (by kernel_rfl) @h
def s4_p9_F (K : Value → World → Prop) (B1 : List Value → World → Prop) (l : List Value) (w : World) : Prop :=
  match l with
  | [t3, t4, t21, t22, t23] => s4_p8 K B1 t3 t4 t21 t22 t23 w
  | _ => False
theorem s4_p9_Fe {K : Value → World → Prop} {B1 : List Value → World → Prop} {t3 t4 t21 t22 t23 : Value} {w : World} : s4_p9_F K B1 [t3, t4, t21, t22, t23] w = s4_p8 K B1 t3 t4 t21 t22 t23 w := by kernel_rfl
def s4_p9 (K : Value → World → Prop) (t3 t4 t21 t22 t23 : Value) (w : World) : Prop :=
  LoopL (s4_p9_F K) [t3, t4, t21, t22, t23] w
def s4_p9_den (K : Value → World → Prop) : (Nat → Value) → World → Prop := fun s w => LoopP (fun M1 s w => s4_p8_den K M1 s w) s w
theorem s4_p9_ok (K : Value → World → Prop) (s : Nat → Value) (w : World) (h : s4_p9 K (s 3) (s 4) (s 21) (s 22) (s 23) w) : Tr (s4_p9_den K s w) :=
  tr_loop (G := fun N' s w => s4_p8_den K N' s w) (F := s4_p9_F K) (sel := fun s => [s 3, s 4, s 21, s 22, s 23]) (s := s) (w := w) (p := s4_p9 K (s 3) (s 4) (s 21) (s 22) (s 23) w) (q := s4_p9_den K s w) (fun B s w h => s4_p8_ok K B s w @h) (by kernel_rfl) (by kernel_rfl) @h
def s4_p10 (K : Value → World → Prop) (t0 t3 t4 : Value) (w : World) : Prop :=
  lnS t0 (fun t22 w =>
  s4_p9 K t3 t4 t0 t22 (.int .i64 0) w) w
def s4_p10_den (K : Value → World → Prop) : (Nat → Value) → World → Prop := denL Try.prog [(cd (Try.f4.body.getD .skip) [1, 1, 1, 1, 1, 0, 0])] (s4_p9_den K) (fun i => (fun _ _ => False)) (s4_R K)
theorem s4_p10_ok (K : Value → World → Prop) (s : Nat → Value) (w : World) (h : s4_p10 K (s 0) (s 3) (s 4) w) : Tr (s4_p10_den K s w) :=
  tr_simple (P := Try.prog) (codes := [(cd (Try.f4.body.getD .skip) [1, 1, 1, 1, 1, 0, 0])]) (N := (fun s w => s4_p9 K (s 3) (s 4) (s 21) (s 22) (s 23) w)) (N' := (s4_p9_den K)) (X := (fun i => (fun _ _ => False))) (X' := (fun i => (fun _ _ => False))) (R := s4_R K) (s := s) (w := w) (p := s4_p10 K (s 0) (s 3) (s 4) w) (q := s4_p10_den K s w) (fun s w h => s4_p9_ok K s w @h) (fun i => tr_id) (by kernel_rfl) (by kernel_rfl) @h
def s4_p11 (K : Value → World → Prop) (B1 : List Value → World → Prop) (t0 t3 t4 t14 : Value) (w : World) : Prop :=
  boI .lss t14 (.int .i64 12) (fun t15 w =>
  ifb t15
  (mks 5 [(.int .u8 0)] 1 (.int .i64 16) (.int .i64 16) (fun t18 w =>
  ixa 12 1 t4 t14 (fun t19 w =>
  st1 t19 t18 (fun w =>
  boI .add t14 (.int .i64 1) (fun t20 w =>
  B1 [t0, t3, t4, t20] w) w) w) w) w)
  (s4_p10 K t0 t3 t4 w)) w
def s4_p11_den (K : Value → World → Prop) (M1 : (Nat → Value) → World → Prop) : (Nat → Value) → World → Prop := denL Try.prog [(cd (Try.f4.body.getD .skip) [1, 1, 1, 1, 0, 1, 0, 0, 0]), (cd (Try.f4.body.getD .skip) [1, 1, 1, 1, 0, 1, 0, 0, 1, 0]), (cd (Try.f4.body.getD .skip) [1, 1, 1, 1, 0, 1, 0, 0, 1, 1, 0]), (cd (Try.f4.body.getD .skip) [1, 1, 1, 1, 0, 1, 0, 0, 1, 1, 1])] M1 (fun i => (bif Nat.beq i 0 then (s4_p10_den K) else (fun _ _ => False))) (s4_R K)
theorem s4_p11_ok (K : Value → World → Prop) (B1 : List Value → World → Prop) (s : Nat → Value) (w : World) (h : s4_p11 K B1 (s 0) (s 3) (s 4) (s 14) w) : Tr (s4_p11_den K (fun s w => B1 [s 0, s 3, s 4, s 14] w) s w) :=
  tr_simple (P := Try.prog) (codes := [(cd (Try.f4.body.getD .skip) [1, 1, 1, 1, 0, 1, 0, 0, 0]), (cd (Try.f4.body.getD .skip) [1, 1, 1, 1, 0, 1, 0, 0, 1, 0]), (cd (Try.f4.body.getD .skip) [1, 1, 1, 1, 0, 1, 0, 0, 1, 1, 0]), (cd (Try.f4.body.getD .skip) [1, 1, 1, 1, 0, 1, 0, 0, 1, 1, 1])]) (N := (fun s w => B1 [s 0, s 3, s 4, s 14] w)) (N' := (fun s w => B1 [s 0, s 3, s 4, s 14] w)) (X := (fun i => (bif Nat.beq i 0 then (fun s w => s4_p10 K (s 0) (s 3) (s 4) w) else (fun _ _ => False)))) (X' := (fun i => (bif Nat.beq i 0 then (s4_p10_den K) else (fun _ _ => False)))) (R := s4_R K) (s := s) (w := w) (p := s4_p11 K B1 (s 0) (s 3) (s 4) (s 14) w) (q := s4_p11_den K (fun s w => B1 [s 0, s 3, s 4, s 14] w) s w) tr_id (fun i => (tr_bif (fun s w h => s4_p10_ok K s w @h) tr_id)) (by kernel_rfl) (by kernel_rfl) @h
def s4_p12_F (K : Value → World → Prop) (B1 : List Value → World → Prop) (l : List Value) (w : World) : Prop :=
  match l with
  | [t0, t3, t4, t14] => s4_p11 K B1 t0 t3 t4 t14 w
  | _ => False
theorem s4_p12_Fe {K : Value → World → Prop} {B1 : List Value → World → Prop} {t0 t3 t4 t14 : Value} {w : World} : s4_p12_F K B1 [t0, t3, t4, t14] w = s4_p11 K B1 t0 t3 t4 t14 w := by kernel_rfl
def s4_p12 (K : Value → World → Prop) (t0 t3 t4 t14 : Value) (w : World) : Prop :=
  LoopL (s4_p12_F K) [t0, t3, t4, t14] w
def s4_p12_den (K : Value → World → Prop) : (Nat → Value) → World → Prop := fun s w => LoopP (fun M1 s w => s4_p11_den K M1 s w) s w
theorem s4_p12_ok (K : Value → World → Prop) (s : Nat → Value) (w : World) (h : s4_p12 K (s 0) (s 3) (s 4) (s 14) w) : Tr (s4_p12_den K s w) :=
  tr_loop (G := fun N' s w => s4_p11_den K N' s w) (F := s4_p12_F K) (sel := fun s => [s 0, s 3, s 4, s 14]) (s := s) (w := w) (p := s4_p12 K (s 0) (s 3) (s 4) (s 14) w) (q := s4_p12_den K s w) (fun B s w h => s4_p11_ok K B s w @h) (by kernel_rfl) (by kernel_rfl) @h
def s4_p13 (K : Value → World → Prop) (t0 : Value) (w : World) : Prop :=
  cl Try.prog 11 #[t0] (fun t11 w =>
  un .not t11 (fun t12 w =>
  ifb t12
  (K (.bool true) w)
  (cl Try.prog 12 #[] (fun t13 w =>
  nw 48 #[(.slice none 0 0), (.slice none 0 0), (.slice none 0 0), (.slice none 0 0), (.slice none 0 0), (.slice none 0 0), (.slice none 0 0), (.slice none 0 0), (.slice none 0 0), (.slice none 0 0), (.slice none 0 0), (.slice none 0 0)] (fun t4 w =>
  s4_p12 K t0 t13 t4 (.int .i64 0) w) w) w)) w) w
def s4_p13_den (K : Value → World → Prop) : (Nat → Value) → World → Prop := denL Try.prog [(cd (Try.f4.body.getD .skip) [0]), (cd (Try.f4.body.getD .skip) [1, 0, 0]), (cd (Try.f4.body.getD .skip) [1, 0, 1]), (cd (Try.f4.body.getD .skip) [1, 1, 0]), (cd (Try.f4.body.getD .skip) [1, 1, 1, 0]), (cd (Try.f4.body.getD .skip) [1, 1, 1, 1, 0, 0])] (s4_p12_den K) (fun i => (fun _ _ => False)) (s4_R K)
theorem s4_p13_ok (K : Value → World → Prop) (s : Nat → Value) (w : World) (h : s4_p13 K (s 0) w) : Tr (s4_p13_den K s w) :=
  tr_simple (P := Try.prog) (codes := [(cd (Try.f4.body.getD .skip) [0]), (cd (Try.f4.body.getD .skip) [1, 0, 0]), (cd (Try.f4.body.getD .skip) [1, 0, 1]), (cd (Try.f4.body.getD .skip) [1, 1, 0]), (cd (Try.f4.body.getD .skip) [1, 1, 1, 0]), (cd (Try.f4.body.getD .skip) [1, 1, 1, 1, 0, 0])]) (N := (fun s w => s4_p12 K (s 0) (s 3) (s 4) (s 14) w)) (N' := (s4_p12_den K)) (X := (fun i => (fun _ _ => False))) (X' := (fun i => (fun _ _ => False))) (R := s4_R K) (s := s) (w := w) (p := s4_p13 K (s 0) w) (q := s4_p13_den K s w) (fun s w h => s4_p12_ok K s w @h) (fun i => tr_id) (by kernel_rfl) (by kernel_rfl) @h
/-- the call, from the text -/
theorem c4 (t0 : Value) {K : Value → World → Prop} {w : World} (h : s4_p13 K t0 w) : cl Try.prog 4 #[t0] K w :=
  calls_of_tr (c := (Try.f4.body.getD .skip)) (fn := Try.f4) (q := s4_p13_den K (st0 #[t0]) w) Try.func4 (by kernel_rfl) (by kernel_rfl) (Nat.le_of_ble_eq_true (by kernel_rfl)) (by kernel_rfl) (by kernel_rfl) (s4_p13_ok K (st0 #[t0]) w @h)

/-! ### function 5 : e2e.disklaw.CrashLeavesWhatThePlanSays -/
def s5_R (K : Value → World → Prop) (s : Nat → Value) (w : World) : Prop := retv Try.prog s Try.f5.results.toList (fun vs => K (pack vs) w) w
def s5_p1 (K : Value → World → Prop) (w : World) : Prop :=
  K (.bool true) w
def s5_p1_den (K : Value → World → Prop) : (Nat → Value) → World → Prop := denL Try.prog [(cd (Try.f5.body.getD .skip) [1, 1, 1, 1, 1, 1, 0]), (cd (Try.f5.body.getD .skip) [1, 1, 1, 1, 1, 1, 1])] (fun _ _ => False) (fun i => (fun _ _ => False)) (s5_R K)
theorem s5_p1_ok (K : Value → World → Prop) (s : Nat → Value) (w : World) (h : s5_p1 K w) : Tr (s5_p1_den K s w) :=
  tr_simple (P := Try.prog) (codes := [(cd (Try.f5.body.getD .skip) [1, 1, 1, 1, 1, 1, 0]), (cd (Try.f5.body.getD .skip) [1, 1, 1, 1, 1, 1, 1])]) (N := (fun _ _ => False)) (N' := (fun _ _ => False)) (X := (fun i => (fun _ _ => False))) (X' := (fun i => (fun _ _ => False))) (R := s5_R K) (s := s) (w := w) (p := s5_p1 K w) (q := s5_p1_den K s w) tr_id (fun i => tr_id) (by kernel_rfl) (by kernel_rfl) @h
def s5_p2 (K : Value → World → Prop) (B1 : List Value → World → Prop) (t3 t4 t5 t24 t25 t26 : Value) (w : World) : Prop :=
  boI .add t26 (.int .i64 1) (fun t148 w =>
  B1 [t3, t4, t5, t24, t25, t148] w) w
def s5_p2_den (K : Value → World → Prop) (M1 : (Nat → Value) → World → Prop) : (Nat → Value) → World → Prop := denL Try.prog [(cd (Try.f5.body.getD .skip) [1, 1, 1, 1, 1, 0, 1, 0, 0, 1, 1, 1])] M1 (fun i => (bif Nat.beq i 0 then (s5_p1_den K) else (fun _ _ => False))) (s5_R K)
theorem s5_p2_ok (K : Value → World → Prop) (B1 : List Value → World → Prop) (s : Nat → Value) (w : World) (h : s5_p2 K B1 (s 3) (s 4) (s 5) (s 24) (s 25) (s 26) w) : Tr (s5_p2_den K (fun s w => B1 [s 3, s 4, s 5, s 24, s 25, s 26] w) s w) :=
  tr_simple (P := Try.prog) (codes := [(cd (Try.f5.body.getD .skip) [1, 1, 1, 1, 1, 0, 1, 0, 0, 1, 1, 1])]) (N := (fun s w => B1 [s 3, s 4, s 5, s 24, s 25, s 26] w)) (N' := (fun s w => B1 [s 3, s 4, s 5, s 24, s 25, s 26] w)) (X := (fun i => (bif Nat.beq i 0 then (fun s w => s5_p1 K w) else (fun _ _ => False)))) (X' := (fun i => (bif Nat.beq i 0 then (s5_p1_den K) else (fun _ _ => False)))) (R := s5_R K) (s := s) (w := w) (p := s5_p2 K B1 (s 3) (s 4) (s 5) (s 24) (s 25) (s 26) w) (q := s5_p2_den K (fun s w => B1 [s 3, s 4, s 5, s 24, s 25, s 26] w) s w) tr_id (fun i => (tr_bif (fun s w h => s5_p1_ok K s w @h) tr_id)) (by kernel_rfl) (by kernel_rfl) @h
def s5_p3 (K : Value → World → Prop) (B1 : List Value → World → Prop) (t3 t4 t5 t24 t25 t26 : Value) (w : World) : Prop :=
  bdq [(.slice none 0 0), (.slice none 0 0), (.slice none 0 0), (.slice none 0 0), (.slice none 0 0), (.slice none 0 0), (.slice none 0 0), (.slice none 0 0), (.slice none 0 0), (.slice none 0 0), (.slice none 0 0), (.slice none 0 0)] [] (fun t138 w =>
  stn 12 t5 t138 (fun w =>
  cl Try.prog 25 #[t3] (fun t140 w =>
  cl Try.prog 26 #[t140] (fun t142 w =>
  cl Try.prog 22 #[t140] (fun t144 w =>
  cl Try.prog 27 #[t144, t4] (fun t146 w =>
  un .not t146 (fun t147 w =>
  ifb t147
  (K (.bool false) w)
  (s5_p2 K B1 t3 t4 t5 t24 t25 t26 w)) w) w) w) w) w) w) w
def s5_p3_den (K : Value → World → Prop) (M1 : (Nat → Value) → World → Prop) : (Nat → Value) → World → Prop := denL Try.prog [(cd (Try.f5.body.getD .skip) [1, 1, 1, 1, 1, 0, 1, 0, 0, 1, 1, 0, 0, 1, 1, 1, 1, 1, 1, 1, 1, 1, 1, 0]), (cd (Try.f5.body.getD .skip) [1, 1, 1, 1, 1, 0, 1, 0, 0, 1, 1, 0, 0, 1, 1, 1, 1, 1, 1, 1, 1, 1, 1, 1, 0]), (cd (Try.f5.body.getD .skip) [1, 1, 1, 1, 1, 0, 1, 0, 0, 1, 1, 0, 0, 1, 1, 1, 1, 1, 1, 1, 1, 1, 1, 1, 1, 0]), (cd (Try.f5.body.getD .skip) [1, 1, 1, 1, 1, 0, 1, 0, 0, 1, 1, 0, 0, 1, 1, 1, 1, 1, 1, 1, 1, 1, 1, 1, 1, 1, 0]), (cd (Try.f5.body.getD .skip) [1, 1, 1, 1, 1, 0, 1, 0, 0, 1, 1, 0, 0, 1, 1, 1, 1, 1, 1, 1, 1, 1, 1, 1, 1, 1, 1])] (s5_p2_den K M1) (fun i => (bif Nat.beq i 1 then (s5_p2_den K M1) else (bif Nat.beq i 0 then (s5_p1_den K) else (fun _ _ => False)))) (s5_R K)
theorem s5_p3_ok (K : Value → World → Prop) (B1 : List Value → World → Prop) (s : Nat → Value) (w : World) (h : s5_p3 K B1 (s 3) (s 4) (s 5) (s 24) (s 25) (s 26) w) : Tr (s5_p3_den K (fun s w => B1 [s 3, s 4, s 5, s 24, s 25, s 26] w) s w) :=
  tr_simple (P := Try.prog) (codes := [(cd (Try.f5.body.getD .skip) [1, 1, 1, 1, 1, 0, 1, 0, 0, 1, 1, 0, 0, 1, 1, 1, 1, 1, 1, 1, 1, 1, 1, 0]), (cd (Try.f5.body.getD .skip) [1, 1, 1, 1, 1, 0, 1, 0, 0, 1, 1, 0, 0, 1, 1, 1, 1, 1, 1, 1, 1, 1, 1, 1, 0]), (cd (Try.f5.body.getD .skip) [1, 1, 1, 1, 1, 0, 1, 0, 0, 1, 1, 0, 0, 1, 1, 1, 1, 1, 1, 1, 1, 1, 1, 1, 1, 0]), (cd (Try.f5.body.getD .skip) [1, 1, 1, 1, 1, 0, 1, 0, 0, 1, 1, 0, 0, 1, 1, 1, 1, 1, 1, 1, 1, 1, 1, 1, 1, 1, 0]), (cd (Try.f5.body.getD .skip) [1, 1, 1, 1, 1, 0, 1, 0, 0, 1, 1, 0, 0, 1, 1, 1, 1, 1, 1, 1, 1, 1, 1, 1, 1, 1, 1])]) (N := (fun s w => s5_p2 K B1 (s 3) (s 4) (s 5) (s 24) (s 25) (s 26) w)) (N' := (s5_p2_den K (fun s w => B1 [s 3, s 4, s 5, s 24, s 25, s 26] w))) (X := (fun i => (bif Nat.beq i 1 then (fun s w => s5_p2 K B1 (s 3) (s 4) (s 5) (s 24) (s 25) (s 26) w) else (bif Nat.beq i 0 then (fun s w => s5_p1 K w) else (fun _ _ => False))))) (X' := (fun i => (bif Nat.beq i 1 then (s5_p2_den K (fun s w => B1 [s 3, s 4, s 5, s 24, s 25, s 26] w)) else (bif Nat.beq i 0 then (s5_p1_den K) else (fun _ _ => False))))) (R := s5_R K) (s := s) (w := w) (p := s5_p3 K B1 (s 3) (s 4) (s 5) (s 24) (s 25) (s 26) w) (q := s5_p3_den K (fun s w => B1 [s 3, s 4, s 5, s 24, s 25, s 26] w) s w) (fun s w h => s5_p2_ok K B1 s w @h) (fun i => (tr_bif (fun s w h => s5_p2_ok K B1 s w @h) (tr_bif (fun s w h => s5_p1_ok K s w @h) tr_id))) (by kernel_rfl) (by kernel_rfl) @h
def s5_p4 (K : Value → World → Prop) (B1 : List Value → World → Prop) (B2 : List Value → World → Prop) (t3 t4 t5 t10 t24 t25 t26 t94 : Value) (w : World) : Prop :=
  boI .add t94 (.int .i64 1) (fun t137 w =>
  B2 [t3, t4, t5, t10, t24, t25, t26, t137] w) w
def s5_p4_den (K : Value → World → Prop) (M1 : (Nat → Value) → World → Prop) (M2 : (Nat → Value) → World → Prop) : (Nat → Value) → World → Prop := denL Try.prog [(cd (Try.f5.body.getD .skip) [1, 1, 1, 1, 1, 0, 1, 0, 0, 1, 1, 0, 0, 1, 1, 1, 1, 1, 1, 1, 1, 1, 0, 1, 0, 0, 1, 1, 1])] M2 (fun i => (bif Nat.beq i 4 then (s5_p3_den K M1) else (bif Nat.beq i 1 then (s5_p2_den K M1) else (bif Nat.beq i 0 then (s5_p1_den K) else (fun _ _ => False))))) (s5_R K)
theorem s5_p4_ok (K : Value → World → Prop) (B1 : List Value → World → Prop) (B2 : List Value → World → Prop) (s : Nat → Value) (w : World) (h : s5_p4 K B1 B2 (s 3) (s 4) (s 5) (s 10) (s 24) (s 25) (s 26) (s 94) w) : Tr (s5_p4_den K (fun s w => B1 [s 3, s 4, s 5, s 24, s 25, s 26] w) (fun s w => B2 [s 3, s 4, s 5, s 10, s 24, s 25, s 26, s 94] w) s w) :=
  tr_simple (P := Try.prog) (codes := [(cd (Try.f5.body.getD .skip) [1, 1, 1, 1, 1, 0, 1, 0, 0, 1, 1, 0, 0, 1, 1, 1, 1, 1, 1, 1, 1, 1, 0, 1, 0, 0, 1, 1, 1])]) (N := (fun s w => B2 [s 3, s 4, s 5, s 10, s 24, s 25, s 26, s 94] w)) (N' := (fun s w => B2 [s 3, s 4, s 5, s 10, s 24, s 25, s 26, s 94] w)) (X := (fun i => (bif Nat.beq i 4 then (fun s w => s5_p3 K B1 (s 3) (s 4) (s 5) (s 24) (s 25) (s 26) w) else (bif Nat.beq i 1 then (fun s w => s5_p2 K B1 (s 3) (s 4) (s 5) (s 24) (s 25) (s 26) w) else (bif Nat.beq i 0 then (fun s w => s5_p1 K w) else (fun _ _ => False)))))) (X' := (fun i => (bif Nat.beq i 4 then (s5_p3_den K (fun s w => B1 [s 3, s 4, s 5, s 24, s 25, s 26] w)) else (bif Nat.beq i 1 then (s5_p2_den K (fun s w => B1 [s 3, s 4, s 5, s 24, s 25, s 26] w)) else (bif Nat.beq i 0 then (s5_p1_den K) else (fun _ _ => False)))))) (R := s5_R K) (s := s) (w := w) (p := s5_p4 K B1 B2 (s 3) (s 4) (s 5) (s 10) (s 24) (s 25) (s 26) (s 94) w) (q := s5_p4_den K (fun s w => B1 [s 3, s 4, s 5, s 24, s 25, s 26] w) (fun s w => B2 [s 3, s 4, s 5, s 10, s 24, s 25, s 26, s 94] w) s w) tr_id (fun i => (tr_bif (fun s w h => s5_p3_ok K B1 s w @h) (tr_bif (fun s w h => s5_p2_ok K B1 s w @h) (tr_bif (fun s w h => s5_p1_ok K s w @h) tr_id)))) (by kernel_rfl) (by kernel_rfl) @h
def s5_p5 (K : Value → World → Prop) (B1 : List Value → World → Prop) (B2 : List Value → World → Prop) (B3 : List Value → World → Prop) (t3 t4 t5 t10 t15 t16 t24 t25 t26 t94 : Value) (w : World) : Prop :=
  boI .add t16 (.int .i64 1) (fun t114 w =>
  B3 [t3, t4, t5, t10, t15, t114, t24, t25, t26, t94] w) w
def s5_p5_den (K : Value → World → Prop) (M1 : (Nat → Value) → World → Prop) (M2 : (Nat → Value) → World → Prop) (M3 : (Nat → Value) → World → Prop) : (Nat → Value) → World → Prop := denL Try.prog [(cd (Try.f5.body.getD .skip) [1, 1, 1, 1, 1, 0, 1, 0, 0, 1, 1, 0, 0, 1, 1, 1, 1, 1, 1, 1, 1, 1, 0, 1, 0, 0, 1, 1, 0, 0, 1, 1, 1, 0, 1, 0, 0, 1, 1])] M3 (fun i => (bif Nat.beq i 6 then (s5_p4_den K M1 M2) else (bif Nat.beq i 5 then (s5_p4_den K M1 M2) else (bif Nat.beq i 4 then (s5_p3_den K M1) else (bif Nat.beq i 1 then (s5_p2_den K M1) else (bif Nat.beq i 0 then (s5_p1_den K) else (fun _ _ => False))))))) (s5_R K)
theorem s5_p5_ok (K : Value → World → Prop) (B1 : List Value → World → Prop) (B2 : List Value → World → Prop) (B3 : List Value → World → Prop) (s : Nat → Value) (w : World) (h : s5_p5 K B1 B2 B3 (s 3) (s 4) (s 5) (s 10) (s 15) (s 16) (s 24) (s 25) (s 26) (s 94) w) : Tr (s5_p5_den K (fun s w => B1 [s 3, s 4, s 5, s 24, s 25, s 26] w) (fun s w => B2 [s 3, s 4, s 5, s 10, s 24, s 25, s 26, s 94] w) (fun s w => B3 [s 3, s 4, s 5, s 10, s 15, s 16, s 24, s 25, s 26, s 94] w) s w) :=
  tr_simple (P := Try.prog) (codes := [(cd (Try.f5.body.getD .skip) [1, 1, 1, 1, 1, 0, 1, 0, 0, 1, 1, 0, 0, 1, 1, 1, 1, 1, 1, 1, 1, 1, 0, 1, 0, 0, 1, 1, 0, 0, 1, 1, 1, 0, 1, 0, 0, 1, 1])]) (N := (fun s w => B3 [s 3, s 4, s 5, s 10, s 15, s 16, s 24, s 25, s 26, s 94] w)) (N' := (fun s w => B3 [s 3, s 4, s 5, s 10, s 15, s 16, s 24, s 25, s 26, s 94] w)) (X := (fun i => (bif Nat.beq i 6 then (fun s w => s5_p4 K B1 B2 (s 3) (s 4) (s 5) (s 10) (s 24) (s 25) (s 26) (s 94) w) else (bif Nat.beq i 5 then (fun s w => s5_p4 K B1 B2 (s 3) (s 4) (s 5) (s 10) (s 24) (s 25) (s 26) (s 94) w) else (bif Nat.beq i 4 then (fun s w => s5_p3 K B1 (s 3) (s 4) (s 5) (s 24) (s 25) (s 26) w) else (bif Nat.beq i 1 then (fun s w => s5_p2 K B1 (s 3) (s 4) (s 5) (s 24) (s 25) (s 26) w) else (bif Nat.beq i 0 then (fun s w => s5_p1 K w) else (fun _ _ => False)))))))) (X' := (fun i => (bif Nat.beq i 6 then (s5_p4_den K (fun s w => B1 [s 3, s 4, s 5, s 24, s 25, s 26] w) (fun s w => B2 [s 3, s 4, s 5, s 10, s 24, s 25, s 26, s 94] w)) else (bif Nat.beq i 5 then (s5_p4_den K (fun s w => B1 [s 3, s 4, s 5, s 24, s 25, s 26] w) (fun s w => B2 [s 3, s 4, s 5, s 10, s 24, s 25, s 26, s 94] w)) else (bif Nat.beq i 4 then (s5_p3_den K (fun s w => B1 [s 3, s 4, s 5, s 24, s 25, s 26] w)) else (bif Nat.beq i 1 then (s5_p2_den K (fun s w => B1 [s 3, s 4, s 5, s 24, s 25, s 26] w)) else (bif Nat.beq i 0 then (s5_p1_den K) else (fun _ _ => False)))))))) (R := s5_R K) (s := s) (w := w) (p := s5_p5 K B1 B2 B3 (s 3) (s 4) (s 5) (s 10) (s 15) (s 16) (s 24) (s 25) (s 26) (s 94) w) (q := s5_p5_den K (fun s w => B1 [s 3, s 4, s 5, s 24, s 25, s 26] w) (fun s w => B2 [s 3, s 4, s 5, s 10, s 24, s 25, s 26, s 94] w) (fun s w => B3 [s 3, s 4, s 5, s 10, s 15, s 16, s 24, s 25, s 26, s 94] w) s w) tr_id (fun i => (tr_bif (fun s w h => s5_p4_ok K B1 B2 s w @h) (tr_bif (fun s w h => s5_p4_ok K B1 B2 s w @h) (tr_bif (fun s w h => s5_p3_ok K B1 s w @h) (tr_bif (fun s w h => s5_p2_ok K B1 s w @h) (tr_bif (fun s w h => s5_p1_ok K s w @h) tr_id)))))) (by kernel_rfl) (by kernel_rfl) @h
def s5_p6_d (K : Value → World → Prop) (B1 : List Value → World → Prop) (B2 : List Value → World → Prop) (B3 : List Value → World → Prop) (t3 t4 t5 t10 t15 t16 t24 t25 t26 t94 : Value) (w0 w : World) : Prop :=
  ixs 1 t4 t15 (fun t117 _ =>
  ld1 t117 (fun t118 _ =>
  ixa 12 1 t5 t15 (fun t121 _ =>
  ld1 t121 (fun t122 _ =>
  ixs 1 t122 t16 (fun t124 _ =>
  ld1 t124 (fun t125 _ =>
  ixs 1 t118 t16 (fun t126 _ =>
  st1 t126 t125 (fun w =>
  s5_p5 K B1 B2 B3 t3 t4 t5 t10 t15 t16 t24 t25 t26 t94 w) w) w0) w0) w0) w0) w0) w0) w0
def s5_p6 (K : Value → World → Prop) (B1 : List Value → World → Prop) (B2 : List Value → World → Prop) (B3 : List Value → World → Prop) (t3 t4 t5 t10 t15 t16 t24 t25 t26 t94 : Value) (w : World) : Prop := s5_p6_d K B1 B2 B3 t3 t4 t5 t10 t15 t16 t24 t25 t26 t94 (drw w) (drw w)
def s5_p6_den (K : Value → World → Prop) (M1 : (Nat → Value) → World → Prop) (M2 : (Nat → Value) → World → Prop) (M3 : (Nat → Value) → World → Prop) : (Nat → Value) → World → Prop := denL Try.prog [(cd (Try.f5.body.getD .skip) [1, 1, 1, 1, 1, 0, 1, 0, 0, 1, 1, 0, 0, 1, 1, 1, 1, 1, 1, 1, 1, 1, 0, 1, 0, 0, 1, 1, 0, 0, 1, 1, 1, 0, 1, 0, 0, 1, 0, 0])] (s5_p5_den K M1 M2 M3) (fun i => (bif Nat.beq i 7 then (s5_p5_den K M1 M2 M3) else (bif Nat.beq i 6 then (s5_p4_den K M1 M2) else (bif Nat.beq i 5 then (s5_p4_den K M1 M2) else (bif Nat.beq i 4 then (s5_p3_den K M1) else (bif Nat.beq i 1 then (s5_p2_den K M1) else (bif Nat.beq i 0 then (s5_p1_den K) else (fun _ _ => False)))))))) (s5_R K)
theorem s5_p6_ok (K : Value → World → Prop) (B1 : List Value → World → Prop) (B2 : List Value → World → Prop) (B3 : List Value → World → Prop) (s : Nat → Value) (w : World) (h : s5_p6 K B1 B2 B3 (s 3) (s 4) (s 5) (s 10) (s 15) (s 16) (s 24) (s 25) (s 26) (s 94) w) : Tr (s5_p6_den K (fun s w => B1 [s 3, s 4, s 5, s 24, s 25, s 26] w) (fun s w => B2 [s 3, s 4, s 5, s 10, s 24, s 25, s 26, s 94] w) (fun s w => B3 [s 3, s 4, s 5, s 10, s 15, s 16, s 24, s 25, s 26, s 94] w) s w) :=
  tr_draw (P := Try.prog) (ops := (ro (cd (Try.f5.body.getD .skip) [1, 1, 1, 1, 1, 0, 1, 0, 0, 1, 1, 0, 0, 1, 1, 1, 1, 1, 1, 1, 1, 1, 0, 1, 0, 0, 1, 1, 0, 0, 1, 1, 1, 0, 1, 0, 0, 1, 0, 0]))) (ms := [0, 0, 3, 7, 0, 0, 32, 96, 0, 480, 992, 2047, 4095]) (cs := [0, 1, 2, 3, 4, 5, 6, 7, 8, 9, 10, 11]) (N := (fun s w => s5_p5 K B1 B2 B3 (s 3) (s 4) (s 5) (s 10) (s 15) (s 16) (s 24) (s 25) (s 26) (s 94) w)) (N' := (s5_p5_den K (fun s w => B1 [s 3, s 4, s 5, s 24, s 25, s 26] w) (fun s w => B2 [s 3, s 4, s 5, s 10, s 24, s 25, s 26, s 94] w) (fun s w => B3 [s 3, s 4, s 5, s 10, s 15, s 16, s 24, s 25, s 26, s 94] w))) (s := s) (w := w) (p := s5_p6 K B1 B2 B3 (s 3) (s 4) (s 5) (s 10) (s 15) (s 16) (s 24) (s 25) (s 26) (s 94) w) (q := s5_p6_den K (fun s w => B1 [s 3, s 4, s 5, s 24, s 25, s 26] w) (fun s w => B2 [s 3, s 4, s 5, s 10, s 24, s 25, s 26, s 94] w) (fun s w => B3 [s 3, s 4, s 5, s 10, s 15, s 16, s 24, s 25, s 26, s 94] w) s w) (by kernel_rfl) (by kernel_rfl) (fun s w h => s5_p5_ok K B1 B2 B3 s w @h) (by kernel_rfl) (by kernel_rfl) @h
def s5_p7 (K : Value → World → Prop) (B1 : List Value → World → Prop) (B2 : List Value → World → Prop) (B3 : List Value → World → Prop) (t3 t4 t5 t10 t15 t16 t24 t25 t26 t94 : Value) (w : World) : Prop :=
  boI .lss t16 (.int .i64 16) (fun t106 w =>
  gd t106 true (fun K w => K t16 w) (fun t108 w =>
  gd t106 true (fd 2 t10) (fun t109 w =>
  gd t106 true (ld1 t109) (fun t110 w =>
  gd t106 true (boI .lss t108 t110) (fun t111 w =>
  pk t106 t111 (.bool false) (fun t112 w =>
  ifb t112
  (s5_p6 K B1 B2 B3 t3 t4 t5 t10 t15 t16 t24 t25 t26 t94 w)
  (s5_p4 K B1 B2 t3 t4 t5 t10 t24 t25 t26 t94 w)) w) w) w) w) w) w
def s5_p7_den (K : Value → World → Prop) (M1 : (Nat → Value) → World → Prop) (M2 : (Nat → Value) → World → Prop) (M3 : (Nat → Value) → World → Prop) : (Nat → Value) → World → Prop := denL Try.prog [(cd (Try.f5.body.getD .skip) [1, 1, 1, 1, 1, 0, 1, 0, 0, 1, 1, 0, 0, 1, 1, 1, 1, 1, 1, 1, 1, 1, 0, 1, 0, 0, 1, 1, 0, 0, 1, 1, 1, 0, 1, 0, 0, 0, 0]), (cd (Try.f5.body.getD .skip) [1, 1, 1, 1, 1, 0, 1, 0, 0, 1, 1, 0, 0, 1, 1, 1, 1, 1, 1, 1, 1, 1, 0, 1, 0, 0, 1, 1, 0, 0, 1, 1, 1, 0, 1, 0, 0, 0, 1])] (s5_p6_den K M1 M2 M3) (fun i => (bif Nat.beq i 6 then (s5_p4_den K M1 M2) else (bif Nat.beq i 5 then (s5_p4_den K M1 M2) else (bif Nat.beq i 4 then (s5_p3_den K M1) else (bif Nat.beq i 1 then (s5_p2_den K M1) else (bif Nat.beq i 0 then (s5_p1_den K) else (fun _ _ => False))))))) (s5_R K)
theorem s5_p7_ok (K : Value → World → Prop) (B1 : List Value → World → Prop) (B2 : List Value → World → Prop) (B3 : List Value → World → Prop) (s : Nat → Value) (w : World) (h : s5_p7 K B1 B2 B3 (s 3) (s 4) (s 5) (s 10) (s 15) (s 16) (s 24) (s 25) (s 26) (s 94) w) : Tr (s5_p7_den K (fun s w => B1 [s 3, s 4, s 5, s 24, s 25, s 26] w) (fun s w => B2 [s 3, s 4, s 5, s 10, s 24, s 25, s 26, s 94] w) (fun s w => B3 [s 3, s 4, s 5, s 10, s 15, s 16, s 24, s 25, s 26, s 94] w) s w) :=
  tr_simple (P := Try.prog) (codes := [(cd (Try.f5.body.getD .skip) [1, 1, 1, 1, 1, 0, 1, 0, 0, 1, 1, 0, 0, 1, 1, 1, 1, 1, 1, 1, 1, 1, 0, 1, 0, 0, 1, 1, 0, 0, 1, 1, 1, 0, 1, 0, 0, 0, 0]), (cd (Try.f5.body.getD .skip) [1, 1, 1, 1, 1, 0, 1, 0, 0, 1, 1, 0, 0, 1, 1, 1, 1, 1, 1, 1, 1, 1, 0, 1, 0, 0, 1, 1, 0, 0, 1, 1, 1, 0, 1, 0, 0, 0, 1])]) (N := (fun s w => s5_p6 K B1 B2 B3 (s 3) (s 4) (s 5) (s 10) (s 15) (s 16) (s 24) (s 25) (s 26) (s 94) w)) (N' := (s5_p6_den K (fun s w => B1 [s 3, s 4, s 5, s 24, s 25, s 26] w) (fun s w => B2 [s 3, s 4, s 5, s 10, s 24, s 25, s 26, s 94] w) (fun s w => B3 [s 3, s 4, s 5, s 10, s 15, s 16, s 24, s 25, s 26, s 94] w))) (X := (fun i => (bif Nat.beq i 6 then (fun s w => s5_p4 K B1 B2 (s 3) (s 4) (s 5) (s 10) (s 24) (s 25) (s 26) (s 94) w) else (bif Nat.beq i 5 then (fun s w => s5_p4 K B1 B2 (s 3) (s 4) (s 5) (s 10) (s 24) (s 25) (s 26) (s 94) w) else (bif Nat.beq i 4 then (fun s w => s5_p3 K B1 (s 3) (s 4) (s 5) (s 24) (s 25) (s 26) w) else (bif Nat.beq i 1 then (fun s w => s5_p2 K B1 (s 3) (s 4) (s 5) (s 24) (s 25) (s 26) w) else (bif Nat.beq i 0 then (fun s w => s5_p1 K w) else (fun _ _ => False)))))))) (X' := (fun i => (bif Nat.beq i 6 then (s5_p4_den K (fun s w => B1 [s 3, s 4, s 5, s 24, s 25, s 26] w) (fun s w => B2 [s 3, s 4, s 5, s 10, s 24, s 25, s 26, s 94] w)) else (bif Nat.beq i 5 then (s5_p4_den K (fun s w => B1 [s 3, s 4, s 5, s 24, s 25, s 26] w) (fun s w => B2 [s 3, s 4, s 5, s 10, s 24, s 25, s 26, s 94] w)) else (bif Nat.beq i 4 then (s5_p3_den K (fun s w => B1 [s 3, s 4, s 5, s 24, s 25, s 26] w)) else (bif Nat.beq i 1 then (s5_p2_den K (fun s w => B1 [s 3, s 4, s 5, s 24, s 25, s 26] w)) else (bif Nat.beq i 0 then (s5_p1_den K) else (fun _ _ => False)))))))) (R := s5_R K) (s := s) (w := w) (p := s5_p7 K B1 B2 B3 (s 3) (s 4) (s 5) (s 10) (s 15) (s 16) (s 24) (s 25) (s 26) (s 94) w) (q := s5_p7_den K (fun s w => B1 [s 3, s 4, s 5, s 24, s 25, s 26] w) (fun s w => B2 [s 3, s 4, s 5, s 10, s 24, s 25, s 26, s 94] w) (fun s w => B3 [s 3, s 4, s 5, s 10, s 15, s 16, s 24, s 25, s 26, s 94] w) s w) (fun s w h => s5_p6_ok K B1 B2 B3 s w @h) (fun i => (tr_bif (fun s w h => s5_p4_ok K B1 B2 s w @h) (tr_bif (fun s w h => s5_p4_ok K B1 B2 s w @h) (tr_bif (fun s w h => s5_p3_ok K B1 s w @h) (tr_bif (fun s w h => s5_p2_ok K B1 s w @h) (tr_bif (fun s w h => s5_p1_ok K s w @h) tr_id)))))) (by kernel_rfl) (by kernel_rfl) @h
def s5_p8_F (K : Value → World → Prop) (B1 : List Value → World → Prop) (B2 : List Value → World → Prop) (B3 : List Value → World → Prop) (l : List Value) (w : World) : Prop :=
  match l with
  | [t3, t4, t5, t10, t15, t16, t24, t25, t26, t94] => s5_p7 K B1 B2 B3 t3 t4 t5 t10 t15 t16 t24 t25 t26 t94 w
  | _ => False
theorem s5_p8_Fe {K : Value → World → Prop} {B1 : List Value → World → Prop} {B2 : List Value → World → Prop} {B3 : List Value → World → Prop} {t3 t4 t5 t10 t15 t16 t24 t25 t26 t94 : Value} {w : World} : s5_p8_F K B1 B2 B3 [t3, t4, t5, t10, t15, t16, t24, t25, t26, t94] w = s5_p7 K B1 B2 B3 t3 t4 t5 t10 t15 t16 t24 t25 t26 t94 w := by kernel_rfl
def s5_p8 (K : Value → World → Prop) (B1 : List Value → World → Prop) (B2 : List Value → World → Prop) (t3 t4 t5 t10 t15 t16 t24 t25 t26 t94 : Value) (w : World) : Prop :=
  LoopL (s5_p8_F K B1 B2) [t3, t4, t5, t10, t15, t16, t24, t25, t26, t94] w
def s5_p8_den (K : Value → World → Prop) (M1 : (Nat → Value) → World → Prop) (M2 : (Nat → Value) → World → Prop) : (Nat → Value) → World → Prop := fun s w => LoopP (fun M3 s w => s5_p7_den K M1 M2 M3 s w) s w
theorem s5_p8_ok (K : Value → World → Prop) (B1 : List Value → World → Prop) (B2 : List Value → World → Prop) (s : Nat → Value) (w : World) (h : s5_p8 K B1 B2 (s 3) (s 4) (s 5) (s 10) (s 15) (s 16) (s 24) (s 25) (s 26) (s 94) w) : Tr (s5_p8_den K (fun s w => B1 [s 3, s 4, s 5, s 24, s 25, s 26] w) (fun s w => B2 [s 3, s 4, s 5, s 10, s 24, s 25, s 26, s 94] w) s w) :=
  tr_loop (G := fun N' s w => s5_p7_den K (fun s w => B1 [s 3, s 4, s 5, s 24, s 25, s 26] w) (fun s w => B2 [s 3, s 4, s 5, s 10, s 24, s 25, s 26, s 94] w) N' s w) (F := s5_p8_F K B1 B2) (sel := fun s => [s 3, s 4, s 5, s 10, s 15, s 16, s 24, s 25, s 26, s 94]) (s := s) (w := w) (p := s5_p8 K B1 B2 (s 3) (s 4) (s 5) (s 10) (s 15) (s 16) (s 24) (s 25) (s 26) (s 94) w) (q := s5_p8_den K (fun s w => B1 [s 3, s 4, s 5, s 24, s 25, s 26] w) (fun s w => B2 [s 3, s 4, s 5, s 10, s 24, s 25, s 26, s 94] w) s w) (fun B s w h => s5_p7_ok K B1 B2 B s w @h) (by kernel_rfl) (by kernel_rfl) @h
def s5_p9 (K : Value → World → Prop) (B1 : List Value → World → Prop) (B2 : List Value → World → Prop) (t3 t4 t5 t10 t15 t24 t25 t26 t94 : Value) (w : World) : Prop :=
  s5_p8 K B1 B2 t3 t4 t5 t10 t15 (.int .i64 0) t24 t25 t26 t94 w
def s5_p9_den (K : Value → World → Prop) (M1 : (Nat → Value) → World → Prop) (M2 : (Nat → Value) → World → Prop) : (Nat → Value) → World → Prop := denL Try.prog [(cd (Try.f5.body.getD .skip) [1, 1, 1, 1, 1, 0, 1, 0, 0, 1, 1, 0, 0, 1, 1, 1, 1, 1, 1, 1, 1, 1, 0, 1, 0, 0, 1, 1, 0, 0, 1, 1, 1, 0, 0])] (s5_p8_den K M1 M2) (fun i => (bif Nat.beq i 5 then (s5_p4_den K M1 M2) else (bif Nat.beq i 4 then (s5_p3_den K M1) else (bif Nat.beq i 1 then (s5_p2_den K M1) else (bif Nat.beq i 0 then (s5_p1_den K) else (fun _ _ => False)))))) (s5_R K)
theorem s5_p9_ok (K : Value → World → Prop) (B1 : List Value → World → Prop) (B2 : List Value → World → Prop) (s : Nat → Value) (w : World) (h : s5_p9 K B1 B2 (s 3) (s 4) (s 5) (s 10) (s 15) (s 24) (s 25) (s 26) (s 94) w) : Tr (s5_p9_den K (fun s w => B1 [s 3, s 4, s 5, s 24, s 25, s 26] w) (fun s w => B2 [s 3, s 4, s 5, s 10, s 24, s 25, s 26, s 94] w) s w) :=
  tr_simple (P := Try.prog) (codes := [(cd (Try.f5.body.getD .skip) [1, 1, 1, 1, 1, 0, 1, 0, 0, 1, 1, 0, 0, 1, 1, 1, 1, 1, 1, 1, 1, 1, 0, 1, 0, 0, 1, 1, 0, 0, 1, 1, 1, 0, 0])]) (N := (fun s w => s5_p8 K B1 B2 (s 3) (s 4) (s 5) (s 10) (s 15) (s 16) (s 24) (s 25) (s 26) (s 94) w)) (N' := (s5_p8_den K (fun s w => B1 [s 3, s 4, s 5, s 24, s 25, s 26] w) (fun s w => B2 [s 3, s 4, s 5, s 10, s 24, s 25, s 26, s 94] w))) (X := (fun i => (bif Nat.beq i 5 then (fun s w => s5_p4 K B1 B2 (s 3) (s 4) (s 5) (s 10) (s 24) (s 25) (s 26) (s 94) w) else (bif Nat.beq i 4 then (fun s w => s5_p3 K B1 (s 3) (s 4) (s 5) (s 24) (s 25) (s 26) w) else (bif Nat.beq i 1 then (fun s w => s5_p2 K B1 (s 3) (s 4) (s 5) (s 24) (s 25) (s 26) w) else (bif Nat.beq i 0 then (fun s w => s5_p1 K w) else (fun _ _ => False))))))) (X' := (fun i => (bif Nat.beq i 5 then (s5_p4_den K (fun s w => B1 [s 3, s 4, s 5, s 24, s 25, s 26] w) (fun s w => B2 [s 3, s 4, s 5, s 10, s 24, s 25, s 26, s 94] w)) else (bif Nat.beq i 4 then (s5_p3_den K (fun s w => B1 [s 3, s 4, s 5, s 24, s 25, s 26] w)) else (bif Nat.beq i 1 then (s5_p2_den K (fun s w => B1 [s 3, s 4, s 5, s 24, s 25, s 26] w)) else (bif Nat.beq i 0 then (s5_p1_den K) else (fun _ _ => False))))))) (R := s5_R K) (s := s) (w := w) (p := s5_p9 K B1 B2 (s 3) (s 4) (s 5) (s 10) (s 15) (s 24) (s 25) (s 26) (s 94) w) (q := s5_p9_den K (fun s w => B1 [s 3, s 4, s 5, s 24, s 25, s 26] w) (fun s w => B2 [s 3, s 4, s 5, s 10, s 24, s 25, s 26, s 94] w) s w) (fun s w h => s5_p8_ok K B1 B2 s w @h) (fun i => (tr_bif (fun s w h => s5_p4_ok K B1 B2 s w @h) (tr_bif (fun s w h => s5_p3_ok K B1 s w @h) (tr_bif (fun s w h => s5_p2_ok K B1 s w @h) (tr_bif (fun s w h => s5_p1_ok K s w @h) tr_id))))) (by kernel_rfl) (by kernel_rfl) @h
def s5_p10 (K : Value → World → Prop) (B1 : List Value → World → Prop) (B2 : List Value → World → Prop) (t3 t4 t5 t10 t15 t24 t25 t26 t94 : Value) (w : World) : Prop :=
  fd 0 t10 (fun t127 w =>
  ld1 t127 (fun t128 w =>
  cl Try.prog 24 #[t128, t15] (fun t130 w =>
  ifb t130
  (ixa 12 1 t5 t15 (fun t134 w =>
  ld1 t134 (fun t135 w =>
  ixs 1 t4 t15 (fun t136 w =>
  st1 t136 t135 (fun w =>
  s5_p4 K B1 B2 t3 t4 t5 t10 t24 t25 t26 t94 w) w) w) w) w)
  (s5_p4 K B1 B2 t3 t4 t5 t10 t24 t25 t26 t94 w)) w) w) w
def s5_p10_den (K : Value → World → Prop) (M1 : (Nat → Value) → World → Prop) (M2 : (Nat → Value) → World → Prop) : (Nat → Value) → World → Prop := denL Try.prog [(cd (Try.f5.body.getD .skip) [1, 1, 1, 1, 1, 0, 1, 0, 0, 1, 1, 0, 0, 1, 1, 1, 1, 1, 1, 1, 1, 1, 0, 1, 0, 0, 1, 1, 0, 0, 1, 1, 1, 1, 0]), (cd (Try.f5.body.getD .skip) [1, 1, 1, 1, 1, 0, 1, 0, 0, 1, 1, 0, 0, 1, 1, 1, 1, 1, 1, 1, 1, 1, 0, 1, 0, 0, 1, 1, 0, 0, 1, 1, 1, 1, 1])] (s5_p4_den K M1 M2) (fun i => (bif Nat.beq i 5 then (s5_p4_den K M1 M2) else (bif Nat.beq i 4 then (s5_p3_den K M1) else (bif Nat.beq i 1 then (s5_p2_den K M1) else (bif Nat.beq i 0 then (s5_p1_den K) else (fun _ _ => False)))))) (s5_R K)
theorem s5_p10_ok (K : Value → World → Prop) (B1 : List Value → World → Prop) (B2 : List Value → World → Prop) (s : Nat → Value) (w : World) (h : s5_p10 K B1 B2 (s 3) (s 4) (s 5) (s 10) (s 15) (s 24) (s 25) (s 26) (s 94) w) : Tr (s5_p10_den K (fun s w => B1 [s 3, s 4, s 5, s 24, s 25, s 26] w) (fun s w => B2 [s 3, s 4, s 5, s 10, s 24, s 25, s 26, s 94] w) s w) :=
  tr_simple (P := Try.prog) (codes := [(cd (Try.f5.body.getD .skip) [1, 1, 1, 1, 1, 0, 1, 0, 0, 1, 1, 0, 0, 1, 1, 1, 1, 1, 1, 1, 1, 1, 0, 1, 0, 0, 1, 1, 0, 0, 1, 1, 1, 1, 0]), (cd (Try.f5.body.getD .skip) [1, 1, 1, 1, 1, 0, 1, 0, 0, 1, 1, 0, 0, 1, 1, 1, 1, 1, 1, 1, 1, 1, 0, 1, 0, 0, 1, 1, 0, 0, 1, 1, 1, 1, 1])]) (N := (fun s w => s5_p4 K B1 B2 (s 3) (s 4) (s 5) (s 10) (s 24) (s 25) (s 26) (s 94) w)) (N' := (s5_p4_den K (fun s w => B1 [s 3, s 4, s 5, s 24, s 25, s 26] w) (fun s w => B2 [s 3, s 4, s 5, s 10, s 24, s 25, s 26, s 94] w))) (X := (fun i => (bif Nat.beq i 5 then (fun s w => s5_p4 K B1 B2 (s 3) (s 4) (s 5) (s 10) (s 24) (s 25) (s 26) (s 94) w) else (bif Nat.beq i 4 then (fun s w => s5_p3 K B1 (s 3) (s 4) (s 5) (s 24) (s 25) (s 26) w) else (bif Nat.beq i 1 then (fun s w => s5_p2 K B1 (s 3) (s 4) (s 5) (s 24) (s 25) (s 26) w) else (bif Nat.beq i 0 then (fun s w => s5_p1 K w) else (fun _ _ => False))))))) (X' := (fun i => (bif Nat.beq i 5 then (s5_p4_den K (fun s w => B1 [s 3, s 4, s 5, s 24, s 25, s 26] w) (fun s w => B2 [s 3, s 4, s 5, s 10, s 24, s 25, s 26, s 94] w)) else (bif Nat.beq i 4 then (s5_p3_den K (fun s w => B1 [s 3, s 4, s 5, s 24, s 25, s 26] w)) else (bif Nat.beq i 1 then (s5_p2_den K (fun s w => B1 [s 3, s 4, s 5, s 24, s 25, s 26] w)) else (bif Nat.beq i 0 then (s5_p1_den K) else (fun _ _ => False))))))) (R := s5_R K) (s := s) (w := w) (p := s5_p10 K B1 B2 (s 3) (s 4) (s 5) (s 10) (s 15) (s 24) (s 25) (s 26) (s 94) w) (q := s5_p10_den K (fun s w => B1 [s 3, s 4, s 5, s 24, s 25, s 26] w) (fun s w => B2 [s 3, s 4, s 5, s 10, s 24, s 25, s 26, s 94] w) s w) (fun s w h => s5_p4_ok K B1 B2 s w @h) (fun i => (tr_bif (fun s w h => s5_p4_ok K B1 B2 s w @h) (tr_bif (fun s w h => s5_p3_ok K B1 s w @h) (tr_bif (fun s w h => s5_p2_ok K B1 s w @h) (tr_bif (fun s w h => s5_p1_ok K s w @h) tr_id))))) (by kernel_rfl) (by kernel_rfl) @h
def s5_p11 (K : Value → World → Prop) (B1 : List Value → World → Prop) (B2 : List Value → World → Prop) (t3 t4 t5 t10 t15 t24 t25 t26 t94 t104 : Value) (w : World) : Prop :=
  ifb t104
  (s5_p9 K B1 B2 t3 t4 t5 t10 t15 t24 t25 t26 t94 w)
  (s5_p10 K B1 B2 t3 t4 t5 t10 t15 t24 t25 t26 t94 w)
def s5_p11_den (K : Value → World → Prop) (M1 : (Nat → Value) → World → Prop) (M2 : (Nat → Value) → World → Prop) : (Nat → Value) → World → Prop := fun s w => ifb (ev s (.tmp 104)) ((s5_p9_den K M1 M2) s w) ((s5_p10_den K M1 M2) s w)
theorem s5_p11_ok (K : Value → World → Prop) (B1 : List Value → World → Prop) (B2 : List Value → World → Prop) (s : Nat → Value) (w : World) (h : s5_p11 K B1 B2 (s 3) (s 4) (s 5) (s 10) (s 15) (s 24) (s 25) (s 26) (s 94) (s 104) w) : Tr (s5_p11_den K (fun s w => B1 [s 3, s 4, s 5, s 24, s 25, s 26] w) (fun s w => B2 [s 3, s 4, s 5, s 10, s 24, s 25, s 26, s 94] w) s w) :=
  tr_cond (v := ev s (.tmp 104)) (a := (fun s w => s5_p9 K B1 B2 (s 3) (s 4) (s 5) (s 10) (s 15) (s 24) (s 25) (s 26) (s 94) w) s w) (a' := (s5_p9_den K (fun s w => B1 [s 3, s 4, s 5, s 24, s 25, s 26] w) (fun s w => B2 [s 3, s 4, s 5, s 10, s 24, s 25, s 26, s 94] w)) s w) (b := (fun s w => s5_p10 K B1 B2 (s 3) (s 4) (s 5) (s 10) (s 15) (s 24) (s 25) (s 26) (s 94) w) s w) (b' := (s5_p10_den K (fun s w => B1 [s 3, s 4, s 5, s 24, s 25, s 26] w) (fun s w => B2 [s 3, s 4, s 5, s 10, s 24, s 25, s 26, s 94] w)) s w) (p := s5_p11 K B1 B2 (s 3) (s 4) (s 5) (s 10) (s 15) (s 24) (s 25) (s 26) (s 94) (s 104) w) (q := s5_p11_den K (fun s w => B1 [s 3, s 4, s 5, s 24, s 25, s 26] w) (fun s w => B2 [s 3, s 4, s 5, s 10, s 24, s 25, s 26, s 94] w) s w) ((fun s w h => s5_p9_ok K B1 B2 s w @h) s w) ((fun s w h => s5_p10_ok K B1 B2 s w @h) s w) (by kernel_rfl) (by kernel_rfl) @h
def s5_p12 (K : Value → World → Prop) (B1 : List Value → World → Prop) (B2 : List Value → World → Prop) (t3 t4 t5 t10 t24 t25 t26 t94 : Value) (w : World) : Prop :=
  ixa 12 1 t5 t94 (fun t98 w =>
  ld1 t98 (fun t99 w =>
  boZ .eql t99 (.slice none 0 0) (fun t100 w =>
  ifb t100
  (s5_p4 K B1 B2 t3 t4 t5 t10 t24 t25 t26 t94 w)
  (fd 1 t10 (fun t102 w =>
  ld1 t102 (fun t103 w =>
  boI .eql t94 t103 (fun t104 w =>
  s5_p11 K B1 B2 t3 t4 t5 t10 t94 t24 t25 t26 t94 t104 w) w) w) w)) w) w) w
def s5_p12_den (K : Value → World → Prop) (M1 : (Nat → Value) → World → Prop) (M2 : (Nat → Value) → World → Prop) : (Nat → Value) → World → Prop := denL Try.prog [(cd (Try.f5.body.getD .skip) [1, 1, 1, 1, 1, 0, 1, 0, 0, 1, 1, 0, 0, 1, 1, 1, 1, 1, 1, 1, 1, 1, 0, 1, 0, 0, 1, 1, 0, 0, 0]), (cd (Try.f5.body.getD .skip) [1, 1, 1, 1, 1, 0, 1, 0, 0, 1, 1, 0, 0, 1, 1, 1, 1, 1, 1, 1, 1, 1, 0, 1, 0, 0, 1, 1, 0, 0, 1, 0, 0]), (cd (Try.f5.body.getD .skip) [1, 1, 1, 1, 1, 0, 1, 0, 0, 1, 1, 0, 0, 1, 1, 1, 1, 1, 1, 1, 1, 1, 0, 1, 0, 0, 1, 1, 0, 0, 1, 0, 1]), (cd (Try.f5.body.getD .skip) [1, 1, 1, 1, 1, 0, 1, 0, 0, 1, 1, 0, 0, 1, 1, 1, 1, 1, 1, 1, 1, 1, 0, 1, 0, 0, 1, 1, 0, 0, 1, 1, 0])] (s5_p11_den K M1 M2) (fun i => (bif Nat.beq i 5 then (s5_p4_den K M1 M2) else (bif Nat.beq i 4 then (s5_p3_den K M1) else (bif Nat.beq i 1 then (s5_p2_den K M1) else (bif Nat.beq i 0 then (s5_p1_den K) else (fun _ _ => False)))))) (s5_R K)
theorem s5_p12_ok (K : Value → World → Prop) (B1 : List Value → World → Prop) (B2 : List Value → World → Prop) (s : Nat → Value) (w : World) (h : s5_p12 K B1 B2 (s 3) (s 4) (s 5) (s 10) (s 24) (s 25) (s 26) (s 94) w) : Tr (s5_p12_den K (fun s w => B1 [s 3, s 4, s 5, s 24, s 25, s 26] w) (fun s w => B2 [s 3, s 4, s 5, s 10, s 24, s 25, s 26, s 94] w) s w) :=
  tr_simple (P := Try.prog) (codes := [(cd (Try.f5.body.getD .skip) [1, 1, 1, 1, 1, 0, 1, 0, 0, 1, 1, 0, 0, 1, 1, 1, 1, 1, 1, 1, 1, 1, 0, 1, 0, 0, 1, 1, 0, 0, 0]), (cd (Try.f5.body.getD .skip) [1, 1, 1, 1, 1, 0, 1, 0, 0, 1, 1, 0, 0, 1, 1, 1, 1, 1, 1, 1, 1, 1, 0, 1, 0, 0, 1, 1, 0, 0, 1, 0, 0]), (cd (Try.f5.body.getD .skip) [1, 1, 1, 1, 1, 0, 1, 0, 0, 1, 1, 0, 0, 1, 1, 1, 1, 1, 1, 1, 1, 1, 0, 1, 0, 0, 1, 1, 0, 0, 1, 0, 1]), (cd (Try.f5.body.getD .skip) [1, 1, 1, 1, 1, 0, 1, 0, 0, 1, 1, 0, 0, 1, 1, 1, 1, 1, 1, 1, 1, 1, 0, 1, 0, 0, 1, 1, 0, 0, 1, 1, 0])]) (N := (fun s w => s5_p11 K B1 B2 (s 3) (s 4) (s 5) (s 10) (s 15) (s 24) (s 25) (s 26) (s 94) (s 104) w)) (N' := (s5_p11_den K (fun s w => B1 [s 3, s 4, s 5, s 24, s 25, s 26] w) (fun s w => B2 [s 3, s 4, s 5, s 10, s 24, s 25, s 26, s 94] w))) (X := (fun i => (bif Nat.beq i 5 then (fun s w => s5_p4 K B1 B2 (s 3) (s 4) (s 5) (s 10) (s 24) (s 25) (s 26) (s 94) w) else (bif Nat.beq i 4 then (fun s w => s5_p3 K B1 (s 3) (s 4) (s 5) (s 24) (s 25) (s 26) w) else (bif Nat.beq i 1 then (fun s w => s5_p2 K B1 (s 3) (s 4) (s 5) (s 24) (s 25) (s 26) w) else (bif Nat.beq i 0 then (fun s w => s5_p1 K w) else (fun _ _ => False))))))) (X' := (fun i => (bif Nat.beq i 5 then (s5_p4_den K (fun s w => B1 [s 3, s 4, s 5, s 24, s 25, s 26] w) (fun s w => B2 [s 3, s 4, s 5, s 10, s 24, s 25, s 26, s 94] w)) else (bif Nat.beq i 4 then (s5_p3_den K (fun s w => B1 [s 3, s 4, s 5, s 24, s 25, s 26] w)) else (bif Nat.beq i 1 then (s5_p2_den K (fun s w => B1 [s 3, s 4, s 5, s 24, s 25, s 26] w)) else (bif Nat.beq i 0 then (s5_p1_den K) else (fun _ _ => False))))))) (R := s5_R K) (s := s) (w := w) (p := s5_p12 K B1 B2 (s 3) (s 4) (s 5) (s 10) (s 24) (s 25) (s 26) (s 94) w) (q := s5_p12_den K (fun s w => B1 [s 3, s 4, s 5, s 24, s 25, s 26] w) (fun s w => B2 [s 3, s 4, s 5, s 10, s 24, s 25, s 26, s 94] w) s w) (fun s w h => s5_p11_ok K B1 B2 s w @h) (fun i => (tr_bif (fun s w h => s5_p4_ok K B1 B2 s w @h) (tr_bif (fun s w h => s5_p3_ok K B1 s w @h) (tr_bif (fun s w h => s5_p2_ok K B1 s w @h) (tr_bif (fun s w h => s5_p1_ok K s w @h) tr_id))))) (by kernel_rfl) (by kernel_rfl) @h
def s5_p13 (K : Value → World → Prop) (B1 : List Value → World → Prop) (B2 : List Value → World → Prop) (t3 t4 t5 t10 t24 t25 t26 t94 : Value) (w : World) : Prop :=
  boI .lss t94 (.int .i64 12) (fun t95 w =>
  ifb t95
  (s5_p12 K B1 B2 t3 t4 t5 t10 t24 t25 t26 t94 w)
  (s5_p3 K B1 t3 t4 t5 t24 t25 t26 w)) w
def s5_p13_den (K : Value → World → Prop) (M1 : (Nat → Value) → World → Prop) (M2 : (Nat → Value) → World → Prop) : (Nat → Value) → World → Prop := denL Try.prog [(cd (Try.f5.body.getD .skip) [1, 1, 1, 1, 1, 0, 1, 0, 0, 1, 1, 0, 0, 1, 1, 1, 1, 1, 1, 1, 1, 1, 0, 1, 0, 0, 0]), (cd (Try.f5.body.getD .skip) [1, 1, 1, 1, 1, 0, 1, 0, 0, 1, 1, 0, 0, 1, 1, 1, 1, 1, 1, 1, 1, 1, 0, 1, 0, 0, 1, 0])] (s5_p12_den K M1 M2) (fun i => (bif Nat.beq i 4 then (s5_p3_den K M1) else (bif Nat.beq i 1 then (s5_p2_den K M1) else (bif Nat.beq i 0 then (s5_p1_den K) else (fun _ _ => False))))) (s5_R K)
theorem s5_p13_ok (K : Value → World → Prop) (B1 : List Value → World → Prop) (B2 : List Value → World → Prop) (s : Nat → Value) (w : World) (h : s5_p13 K B1 B2 (s 3) (s 4) (s 5) (s 10) (s 24) (s 25) (s 26) (s 94) w) : Tr (s5_p13_den K (fun s w => B1 [s 3, s 4, s 5, s 24, s 25, s 26] w) (fun s w => B2 [s 3, s 4, s 5, s 10, s 24, s 25, s 26, s 94] w) s w) :=
  tr_simple (P := Try.prog) (codes := [(cd (Try.f5.body.getD .skip) [1, 1, 1, 1, 1, 0, 1, 0, 0, 1, 1, 0, 0, 1, 1, 1, 1, 1, 1, 1, 1, 1, 0, 1, 0, 0, 0]), (cd (Try.f5.body.getD .skip) [1, 1, 1, 1, 1, 0, 1, 0, 0, 1, 1, 0, 0, 1, 1, 1, 1, 1, 1, 1, 1, 1, 0, 1, 0, 0, 1, 0])]) (N := (fun s w => s5_p12 K B1 B2 (s 3) (s 4) (s 5) (s 10) (s 24) (s 25) (s 26) (s 94) w)) (N' := (s5_p12_den K (fun s w => B1 [s 3, s 4, s 5, s 24, s 25, s 26] w) (fun s w => B2 [s 3, s 4, s 5, s 10, s 24, s 25, s 26, s 94] w))) (X := (fun i => (bif Nat.beq i 4 then (fun s w => s5_p3 K B1 (s 3) (s 4) (s 5) (s 24) (s 25) (s 26) w) else (bif Nat.beq i 1 then (fun s w => s5_p2 K B1 (s 3) (s 4) (s 5) (s 24) (s 25) (s 26) w) else (bif Nat.beq i 0 then (fun s w => s5_p1 K w) else (fun _ _ => False)))))) (X' := (fun i => (bif Nat.beq i 4 then (s5_p3_den K (fun s w => B1 [s 3, s 4, s 5, s 24, s 25, s 26] w)) else (bif Nat.beq i 1 then (s5_p2_den K (fun s w => B1 [s 3, s 4, s 5, s 24, s 25, s 26] w)) else (bif Nat.beq i 0 then (s5_p1_den K) else (fun _ _ => False)))))) (R := s5_R K) (s := s) (w := w) (p := s5_p13 K B1 B2 (s 3) (s 4) (s 5) (s 10) (s 24) (s 25) (s 26) (s 94) w) (q := s5_p13_den K (fun s w => B1 [s 3, s 4, s 5, s 24, s 25, s 26] w) (fun s w => B2 [s 3, s 4, s 5, s 10, s 24, s 25, s 26, s 94] w) s w) (fun s w h => s5_p12_ok K B1 B2 s w @h) (fun i => (tr_bif (fun s w h => s5_p3_ok K B1 s w @h) (tr_bif (fun s w h => s5_p2_ok K B1 s w @h) (tr_bif (fun s w h => s5_p1_ok K s w @h) tr_id)))) (by kernel_rfl) (by kernel_rfl) @h
def s5_p14_F (K : Value → World → Prop) (B1 : List Value → World → Prop) (B2 : List Value → World → Prop) (l : List Value) (w : World) : Prop :=
  match l with
  | [t3, t4, t5, t10, t24, t25, t26, t94] => s5_p13 K B1 B2 t3 t4 t5 t10 t24 t25 t26 t94 w
  | _ => False
theorem s5_p14_Fe {K : Value → World → Prop} {B1 : List Value → World → Prop} {B2 : List Value → World → Prop} {t3 t4 t5 t10 t24 t25 t26 t94 : Value} {w : World} : s5_p14_F K B1 B2 [t3, t4, t5, t10, t24, t25, t26, t94] w = s5_p13 K B1 B2 t3 t4 t5 t10 t24 t25 t26 t94 w := by kernel_rfl
def s5_p14 (K : Value → World → Prop) (B1 : List Value → World → Prop) (t3 t4 t5 t10 t24 t25 t26 t94 : Value) (w : World) : Prop :=
  LoopL (s5_p14_F K B1) [t3, t4, t5, t10, t24, t25, t26, t94] w
def s5_p14_den (K : Value → World → Prop) (M1 : (Nat → Value) → World → Prop) : (Nat → Value) → World → Prop := fun s w => LoopP (fun M2 s w => s5_p13_den K M1 M2 s w) s w
theorem s5_p14_ok (K : Value → World → Prop) (B1 : List Value → World → Prop) (s : Nat → Value) (w : World) (h : s5_p14 K B1 (s 3) (s 4) (s 5) (s 10) (s 24) (s 25) (s 26) (s 94) w) : Tr (s5_p14_den K (fun s w => B1 [s 3, s 4, s 5, s 24, s 25, s 26] w) s w) :=
  tr_loop (G := fun N' s w => s5_p13_den K (fun s w => B1 [s 3, s 4, s 5, s 24, s 25, s 26] w) N' s w) (F := s5_p14_F K B1) (sel := fun s => [s 3, s 4, s 5, s 10, s 24, s 25, s 26, s 94]) (s := s) (w := w) (p := s5_p14 K B1 (s 3) (s 4) (s 5) (s 10) (s 24) (s 25) (s 26) (s 94) w) (q := s5_p14_den K (fun s w => B1 [s 3, s 4, s 5, s 24, s 25, s 26] w) s w) (fun B s w h => s5_p13_ok K B1 B s w @h) (by kernel_rfl) (by kernel_rfl) @h
def s5_p15 (K : Value → World → Prop) (B1 : List Value → World → Prop) (t3 t4 t5 t10 t13 t24 t25 t26 : Value) (w : World) : Prop :=
  un .not t13 (fun t93 w =>
  ifb t93
  (s5_p2 K B1 t3 t4 t5 t24 t25 t26 w)
  (s5_p14 K B1 t3 t4 t5 t10 t24 t25 t26 (.int .i64 0) w)) w
def s5_p15_den (K : Value → World → Prop) (M1 : (Nat → Value) → World → Prop) : (Nat → Value) → World → Prop := denL Try.prog [(cd (Try.f5.body.getD .skip) [1, 1, 1, 1, 1, 0, 1, 0, 0, 1, 1, 0, 0, 1, 1, 1, 1, 1, 1, 1, 1, 0, 0]), (cd (Try.f5.body.getD .skip) [1, 1, 1, 1, 1, 0, 1, 0, 0, 1, 1, 0, 0, 1, 1, 1, 1, 1, 1, 1, 1, 0, 1]), (cd (Try.f5.body.getD .skip) [1, 1, 1, 1, 1, 0, 1, 0, 0, 1, 1, 0, 0, 1, 1, 1, 1, 1, 1, 1, 1, 1, 0, 0])] (s5_p14_den K M1) (fun i => (bif Nat.beq i 1 then (s5_p2_den K M1) else (bif Nat.beq i 0 then (s5_p1_den K) else (fun _ _ => False)))) (s5_R K)
theorem s5_p15_ok (K : Value → World → Prop) (B1 : List Value → World → Prop) (s : Nat → Value) (w : World) (h : s5_p15 K B1 (s 3) (s 4) (s 5) (s 10) (s 13) (s 24) (s 25) (s 26) w) : Tr (s5_p15_den K (fun s w => B1 [s 3, s 4, s 5, s 24, s 25, s 26] w) s w) :=
  tr_simple (P := Try.prog) (codes := [(cd (Try.f5.body.getD .skip) [1, 1, 1, 1, 1, 0, 1, 0, 0, 1, 1, 0, 0, 1, 1, 1, 1, 1, 1, 1, 1, 0, 0]), (cd (Try.f5.body.getD .skip) [1, 1, 1, 1, 1, 0, 1, 0, 0, 1, 1, 0, 0, 1, 1, 1, 1, 1, 1, 1, 1, 0, 1]), (cd (Try.f5.body.getD .skip) [1, 1, 1, 1, 1, 0, 1, 0, 0, 1, 1, 0, 0, 1, 1, 1, 1, 1, 1, 1, 1, 1, 0, 0])]) (N := (fun s w => s5_p14 K B1 (s 3) (s 4) (s 5) (s 10) (s 24) (s 25) (s 26) (s 94) w)) (N' := (s5_p14_den K (fun s w => B1 [s 3, s 4, s 5, s 24, s 25, s 26] w))) (X := (fun i => (bif Nat.beq i 1 then (fun s w => s5_p2 K B1 (s 3) (s 4) (s 5) (s 24) (s 25) (s 26) w) else (bif Nat.beq i 0 then (fun s w => s5_p1 K w) else (fun _ _ => False))))) (X' := (fun i => (bif Nat.beq i 1 then (s5_p2_den K (fun s w => B1 [s 3, s 4, s 5, s 24, s 25, s 26] w)) else (bif Nat.beq i 0 then (s5_p1_den K) else (fun _ _ => False))))) (R := s5_R K) (s := s) (w := w) (p := s5_p15 K B1 (s 3) (s 4) (s 5) (s 10) (s 13) (s 24) (s 25) (s 26) w) (q := s5_p15_den K (fun s w => B1 [s 3, s 4, s 5, s 24, s 25, s 26] w) s w) (fun s w h => s5_p14_ok K B1 s w @h) (fun i => (tr_bif (fun s w h => s5_p2_ok K B1 s w @h) (tr_bif (fun s w h => s5_p1_ok K s w @h) tr_id))) (by kernel_rfl) (by kernel_rfl) @h
def s5_p16 (K : Value → World → Prop) (B1 : List Value → World → Prop) (t3 t4 t5 t10 t13 t24 t25 t26 : Value) (w : World) : Prop :=
  bdq [(.slice none 0 0), (.slice none 0 0), (.slice none 0 0), (.slice none 0 0), (.slice none 0 0), (.slice none 0 0), (.slice none 0 0), (.slice none 0 0), (.slice none 0 0), (.slice none 0 0), (.slice none 0 0), (.slice none 0 0)] [] (fun t91 w =>
  stn 12 t5 t91 (fun w =>
  s5_p15 K B1 t3 t4 t5 t10 t13 t24 t25 t26 w) w) w
def s5_p16_den (K : Value → World → Prop) (M1 : (Nat → Value) → World → Prop) : (Nat → Value) → World → Prop := denL Try.prog [(cd (Try.f5.body.getD .skip) [1, 1, 1, 1, 1, 0, 1, 0, 0, 1, 1, 0, 0, 1, 1, 1, 1, 1, 1, 1, 0, 1, 0, 1])] (s5_p15_den K M1) (fun i => (bif Nat.beq i 1 then (s5_p2_den K M1) else (bif Nat.beq i 0 then (s5_p1_den K) else (fun _ _ => False)))) (s5_R K)
theorem s5_p16_ok (K : Value → World → Prop) (B1 : List Value → World → Prop) (s : Nat → Value) (w : World) (h : s5_p16 K B1 (s 3) (s 4) (s 5) (s 10) (s 13) (s 24) (s 25) (s 26) w) : Tr (s5_p16_den K (fun s w => B1 [s 3, s 4, s 5, s 24, s 25, s 26] w) s w) :=
  tr_simple (P := Try.prog) (codes := [(cd (Try.f5.body.getD .skip) [1, 1, 1, 1, 1, 0, 1, 0, 0, 1, 1, 0, 0, 1, 1, 1, 1, 1, 1, 1, 0, 1, 0, 1])]) (N := (fun s w => s5_p15 K B1 (s 3) (s 4) (s 5) (s 10) (s 13) (s 24) (s 25) (s 26) w)) (N' := (s5_p15_den K (fun s w => B1 [s 3, s 4, s 5, s 24, s 25, s 26] w))) (X := (fun i => (bif Nat.beq i 1 then (fun s w => s5_p2 K B1 (s 3) (s 4) (s 5) (s 24) (s 25) (s 26) w) else (bif Nat.beq i 0 then (fun s w => s5_p1 K w) else (fun _ _ => False))))) (X' := (fun i => (bif Nat.beq i 1 then (s5_p2_den K (fun s w => B1 [s 3, s 4, s 5, s 24, s 25, s 26] w)) else (bif Nat.beq i 0 then (s5_p1_den K) else (fun _ _ => False))))) (R := s5_R K) (s := s) (w := w) (p := s5_p16 K B1 (s 3) (s 4) (s 5) (s 10) (s 13) (s 24) (s 25) (s 26) w) (q := s5_p16_den K (fun s w => B1 [s 3, s 4, s 5, s 24, s 25, s 26] w) s w) (fun s w h => s5_p15_ok K B1 s w @h) (fun i => (tr_bif (fun s w h => s5_p2_ok K B1 s w @h) (tr_bif (fun s w h => s5_p1_ok K s w @h) tr_id))) (by kernel_rfl) (by kernel_rfl) @h
def s5_p17 (K : Value → World → Prop) (B1 : List Value → World → Prop) (B2 : List Value → World → Prop) (t3 t4 t5 t10 t13 t24 t25 t26 t77 : Value) (w : World) : Prop :=
  boI .add t77 (.int .i64 1) (fun t90 w =>
  B2 [t3, t4, t5, t10, t13, t24, t25, t26, t90] w) w
def s5_p17_den (K : Value → World → Prop) (M1 : (Nat → Value) → World → Prop) (M2 : (Nat → Value) → World → Prop) : (Nat → Value) → World → Prop := denL Try.prog [(cd (Try.f5.body.getD .skip) [1, 1, 1, 1, 1, 0, 1, 0, 0, 1, 1, 0, 0, 1, 1, 1, 1, 1, 1, 1, 0, 1, 0, 0, 1, 0, 0, 1, 1, 1])] M2 (fun i => (bif Nat.beq i 2 then (s5_p16_den K M1) else (bif Nat.beq i 1 then (s5_p2_den K M1) else (bif Nat.beq i 0 then (s5_p1_den K) else (fun _ _ => False))))) (s5_R K)
theorem s5_p17_ok (K : Value → World → Prop) (B1 : List Value → World → Prop) (B2 : List Value → World → Prop) (s : Nat → Value) (w : World) (h : s5_p17 K B1 B2 (s 3) (s 4) (s 5) (s 10) (s 13) (s 24) (s 25) (s 26) (s 77) w) : Tr (s5_p17_den K (fun s w => B1 [s 3, s 4, s 5, s 24, s 25, s 26] w) (fun s w => B2 [s 3, s 4, s 5, s 10, s 13, s 24, s 25, s 26, s 77] w) s w) :=
  tr_simple (P := Try.prog) (codes := [(cd (Try.f5.body.getD .skip) [1, 1, 1, 1, 1, 0, 1, 0, 0, 1, 1, 0, 0, 1, 1, 1, 1, 1, 1, 1, 0, 1, 0, 0, 1, 0, 0, 1, 1, 1])]) (N := (fun s w => B2 [s 3, s 4, s 5, s 10, s 13, s 24, s 25, s 26, s 77] w)) (N' := (fun s w => B2 [s 3, s 4, s 5, s 10, s 13, s 24, s 25, s 26, s 77] w)) (X := (fun i => (bif Nat.beq i 2 then (fun s w => s5_p16 K B1 (s 3) (s 4) (s 5) (s 10) (s 13) (s 24) (s 25) (s 26) w) else (bif Nat.beq i 1 then (fun s w => s5_p2 K B1 (s 3) (s 4) (s 5) (s 24) (s 25) (s 26) w) else (bif Nat.beq i 0 then (fun s w => s5_p1 K w) else (fun _ _ => False)))))) (X' := (fun i => (bif Nat.beq i 2 then (s5_p16_den K (fun s w => B1 [s 3, s 4, s 5, s 24, s 25, s 26] w)) else (bif Nat.beq i 1 then (s5_p2_den K (fun s w => B1 [s 3, s 4, s 5, s 24, s 25, s 26] w)) else (bif Nat.beq i 0 then (s5_p1_den K) else (fun _ _ => False)))))) (R := s5_R K) (s := s) (w := w) (p := s5_p17 K B1 B2 (s 3) (s 4) (s 5) (s 10) (s 13) (s 24) (s 25) (s 26) (s 77) w) (q := s5_p17_den K (fun s w => B1 [s 3, s 4, s 5, s 24, s 25, s 26] w) (fun s w => B2 [s 3, s 4, s 5, s 10, s 13, s 24, s 25, s 26, s 77] w) s w) tr_id (fun i => (tr_bif (fun s w h => s5_p16_ok K B1 s w @h) (tr_bif (fun s w h => s5_p2_ok K B1 s w @h) (tr_bif (fun s w h => s5_p1_ok K s w @h) tr_id)))) (by kernel_rfl) (by kernel_rfl) @h
def s5_p18 (K : Value → World → Prop) (B1 : List Value → World → Prop) (B2 : List Value → World → Prop) (t3 t4 t5 t10 t13 t24 t25 t26 t77 : Value) (w : World) : Prop :=
  boI .lss t77 (.int .i64 12) (fun t78 w =>
  ifb t78
  (ixa 12 1 t5 t77 (fun t81 w =>
  ld1 t81 (fun t82 w =>
  boZ .neq t82 (.slice none 0 0) (fun t83 w =>
  ifb t83
  (ixa 12 1 t5 t77 (fun t87 w =>
  ld1 t87 (fun t88 w =>
  ixs 1 t4 t77 (fun t89 w =>
  st1 t89 t88 (fun w =>
  s5_p17 K B1 B2 t3 t4 t5 t10 t13 t24 t25 t26 t77 w) w) w) w) w)
  (s5_p17 K B1 B2 t3 t4 t5 t10 t13 t24 t25 t26 t77 w)) w) w) w)
  (s5_p16 K B1 t3 t4 t5 t10 t13 t24 t25 t26 w)) w
def s5_p18_den (K : Value → World → Prop) (M1 : (Nat → Value) → World → Prop) (M2 : (Nat → Value) → World → Prop) : (Nat → Value) → World → Prop := denL Try.prog [(cd (Try.f5.body.getD .skip) [1, 1, 1, 1, 1, 0, 1, 0, 0, 1, 1, 0, 0, 1, 1, 1, 1, 1, 1, 1, 0, 1, 0, 0, 1, 0, 0, 0]), (cd (Try.f5.body.getD .skip) [1, 1, 1, 1, 1, 0, 1, 0, 0, 1, 1, 0, 0, 1, 1, 1, 1, 1, 1, 1, 0, 1, 0, 0, 1, 0, 0, 1, 0]), (cd (Try.f5.body.getD .skip) [1, 1, 1, 1, 1, 0, 1, 0, 0, 1, 1, 0, 0, 1, 1, 1, 1, 1, 1, 1, 0, 1, 0, 0, 1, 0, 0, 1, 1, 0])] (s5_p17_den K M1 M2) (fun i => (bif Nat.beq i 2 then (s5_p16_den K M1) else (bif Nat.beq i 1 then (s5_p2_den K M1) else (bif Nat.beq i 0 then (s5_p1_den K) else (fun _ _ => False))))) (s5_R K)
theorem s5_p18_ok (K : Value → World → Prop) (B1 : List Value → World → Prop) (B2 : List Value → World → Prop) (s : Nat → Value) (w : World) (h : s5_p18 K B1 B2 (s 3) (s 4) (s 5) (s 10) (s 13) (s 24) (s 25) (s 26) (s 77) w) : Tr (s5_p18_den K (fun s w => B1 [s 3, s 4, s 5, s 24, s 25, s 26] w) (fun s w => B2 [s 3, s 4, s 5, s 10, s 13, s 24, s 25, s 26, s 77] w) s w) :=
  tr_simple (P := Try.prog) (codes := [(cd (Try.f5.body.getD .skip) [1, 1, 1, 1, 1, 0, 1, 0, 0, 1, 1, 0, 0, 1, 1, 1, 1, 1, 1, 1, 0, 1, 0, 0, 1, 0, 0, 0]), (cd (Try.f5.body.getD .skip) [1, 1, 1, 1, 1, 0, 1, 0, 0, 1, 1, 0, 0, 1, 1, 1, 1, 1, 1, 1, 0, 1, 0, 0, 1, 0, 0, 1, 0]), (cd (Try.f5.body.getD .skip) [1, 1, 1, 1, 1, 0, 1, 0, 0, 1, 1, 0, 0, 1, 1, 1, 1, 1, 1, 1, 0, 1, 0, 0, 1, 0, 0, 1, 1, 0])]) (N := (fun s w => s5_p17 K B1 B2 (s 3) (s 4) (s 5) (s 10) (s 13) (s 24) (s 25) (s 26) (s 77) w)) (N' := (s5_p17_den K (fun s w => B1 [s 3, s 4, s 5, s 24, s 25, s 26] w) (fun s w => B2 [s 3, s 4, s 5, s 10, s 13, s 24, s 25, s 26, s 77] w))) (X := (fun i => (bif Nat.beq i 2 then (fun s w => s5_p16 K B1 (s 3) (s 4) (s 5) (s 10) (s 13) (s 24) (s 25) (s 26) w) else (bif Nat.beq i 1 then (fun s w => s5_p2 K B1 (s 3) (s 4) (s 5) (s 24) (s 25) (s 26) w) else (bif Nat.beq i 0 then (fun s w => s5_p1 K w) else (fun _ _ => False)))))) (X' := (fun i => (bif Nat.beq i 2 then (s5_p16_den K (fun s w => B1 [s 3, s 4, s 5, s 24, s 25, s 26] w)) else (bif Nat.beq i 1 then (s5_p2_den K (fun s w => B1 [s 3, s 4, s 5, s 24, s 25, s 26] w)) else (bif Nat.beq i 0 then (s5_p1_den K) else (fun _ _ => False)))))) (R := s5_R K) (s := s) (w := w) (p := s5_p18 K B1 B2 (s 3) (s 4) (s 5) (s 10) (s 13) (s 24) (s 25) (s 26) (s 77) w) (q := s5_p18_den K (fun s w => B1 [s 3, s 4, s 5, s 24, s 25, s 26] w) (fun s w => B2 [s 3, s 4, s 5, s 10, s 13, s 24, s 25, s 26, s 77] w) s w) (fun s w h => s5_p17_ok K B1 B2 s w @h) (fun i => (tr_bif (fun s w h => s5_p16_ok K B1 s w @h) (tr_bif (fun s w h => s5_p2_ok K B1 s w @h) (tr_bif (fun s w h => s5_p1_ok K s w @h) tr_id)))) (by kernel_rfl) (by kernel_rfl) @h
def s5_p19_F (K : Value → World → Prop) (B1 : List Value → World → Prop) (B2 : List Value → World → Prop) (l : List Value) (w : World) : Prop :=
  match l with
  | [t3, t4, t5, t10, t13, t24, t25, t26, t77] => s5_p18 K B1 B2 t3 t4 t5 t10 t13 t24 t25 t26 t77 w
  | _ => False
theorem s5_p19_Fe {K : Value → World → Prop} {B1 : List Value → World → Prop} {B2 : List Value → World → Prop} {t3 t4 t5 t10 t13 t24 t25 t26 t77 : Value} {w : World} : s5_p19_F K B1 B2 [t3, t4, t5, t10, t13, t24, t25, t26, t77] w = s5_p18 K B1 B2 t3 t4 t5 t10 t13 t24 t25 t26 t77 w := by kernel_rfl
def s5_p19 (K : Value → World → Prop) (B1 : List Value → World → Prop) (t3 t4 t5 t10 t13 t24 t25 t26 t77 : Value) (w : World) : Prop :=
  LoopL (s5_p19_F K B1) [t3, t4, t5, t10, t13, t24, t25, t26, t77] w
def s5_p19_den (K : Value → World → Prop) (M1 : (Nat → Value) → World → Prop) : (Nat → Value) → World → Prop := fun s w => LoopP (fun M2 s w => s5_p18_den K M1 M2 s w) s w
theorem s5_p19_ok (K : Value → World → Prop) (B1 : List Value → World → Prop) (s : Nat → Value) (w : World) (h : s5_p19 K B1 (s 3) (s 4) (s 5) (s 10) (s 13) (s 24) (s 25) (s 26) (s 77) w) : Tr (s5_p19_den K (fun s w => B1 [s 3, s 4, s 5, s 24, s 25, s 26] w) s w) :=
  tr_loop (G := fun N' s w => s5_p18_den K (fun s w => B1 [s 3, s 4, s 5, s 24, s 25, s 26] w) N' s w) (F := s5_p19_F K B1) (sel := fun s => [s 3, s 4, s 5, s 10, s 13, s 24, s 25, s 26, s 77]) (s := s) (w := w) (p := s5_p19 K B1 (s 3) (s 4) (s 5) (s 10) (s 13) (s 24) (s 25) (s 26) (s 77) w) (q := s5_p19_den K (fun s w => B1 [s 3, s 4, s 5, s 24, s 25, s 26] w) s w) (fun B s w h => s5_p18_ok K B1 B s w @h) (by kernel_rfl) (by kernel_rfl) @h
def s5_p20 (K : Value → World → Prop) (B1 : List Value → World → Prop) (t3 t4 t5 t10 t13 t24 t25 t26 : Value) (w : World) : Prop :=
  s5_p19 K B1 t3 t4 t5 t10 t13 t24 t25 t26 (.int .i64 0) w
def s5_p20_den (K : Value → World → Prop) (M1 : (Nat → Value) → World → Prop) : (Nat → Value) → World → Prop := denL Try.prog [(cd (Try.f5.body.getD .skip) [1, 1, 1, 1, 1, 0, 1, 0, 0, 1, 1, 0, 0, 1, 1, 1, 1, 1, 1, 1, 0, 1, 0, 0, 0])] (s5_p19_den K M1) (fun i => (bif Nat.beq i 1 then (s5_p2_den K M1) else (bif Nat.beq i 0 then (s5_p1_den K) else (fun _ _ => False)))) (s5_R K)
theorem s5_p20_ok (K : Value → World → Prop) (B1 : List Value → World → Prop) (s : Nat → Value) (w : World) (h : s5_p20 K B1 (s 3) (s 4) (s 5) (s 10) (s 13) (s 24) (s 25) (s 26) w) : Tr (s5_p20_den K (fun s w => B1 [s 3, s 4, s 5, s 24, s 25, s 26] w) s w) :=
  tr_simple (P := Try.prog) (codes := [(cd (Try.f5.body.getD .skip) [1, 1, 1, 1, 1, 0, 1, 0, 0, 1, 1, 0, 0, 1, 1, 1, 1, 1, 1, 1, 0, 1, 0, 0, 0])]) (N := (fun s w => s5_p19 K B1 (s 3) (s 4) (s 5) (s 10) (s 13) (s 24) (s 25) (s 26) (s 77) w)) (N' := (s5_p19_den K (fun s w => B1 [s 3, s 4, s 5, s 24, s 25, s 26] w))) (X := (fun i => (bif Nat.beq i 1 then (fun s w => s5_p2 K B1 (s 3) (s 4) (s 5) (s 24) (s 25) (s 26) w) else (bif Nat.beq i 0 then (fun s w => s5_p1 K w) else (fun _ _ => False))))) (X' := (fun i => (bif Nat.beq i 1 then (s5_p2_den K (fun s w => B1 [s 3, s 4, s 5, s 24, s 25, s 26] w)) else (bif Nat.beq i 0 then (s5_p1_den K) else (fun _ _ => False))))) (R := s5_R K) (s := s) (w := w) (p := s5_p20 K B1 (s 3) (s 4) (s 5) (s 10) (s 13) (s 24) (s 25) (s 26) w) (q := s5_p20_den K (fun s w => B1 [s 3, s 4, s 5, s 24, s 25, s 26] w) s w) (fun s w h => s5_p19_ok K B1 s w @h) (fun i => (tr_bif (fun s w h => s5_p2_ok K B1 s w @h) (tr_bif (fun s w h => s5_p1_ok K s w @h) tr_id))) (by kernel_rfl) (by kernel_rfl) @h
def s5_p21 (K : Value → World → Prop) (B1 : List Value → World → Prop) (t3 t4 t5 t10 t13 t24 t25 t26 t76 : Value) (w : World) : Prop :=
  ifb t76
  (s5_p20 K B1 t3 t4 t5 t10 t13 t24 t25 t26 w)
  (s5_p15 K B1 t3 t4 t5 t10 t13 t24 t25 t26 w)
def s5_p21_den (K : Value → World → Prop) (M1 : (Nat → Value) → World → Prop) : (Nat → Value) → World → Prop := fun s w => ifb (ev s (.tmp 76)) ((s5_p20_den K M1) s w) ((s5_p15_den K M1) s w)
theorem s5_p21_ok (K : Value → World → Prop) (B1 : List Value → World → Prop) (s : Nat → Value) (w : World) (h : s5_p21 K B1 (s 3) (s 4) (s 5) (s 10) (s 13) (s 24) (s 25) (s 26) (s 76) w) : Tr (s5_p21_den K (fun s w => B1 [s 3, s 4, s 5, s 24, s 25, s 26] w) s w) :=
  tr_cond (v := ev s (.tmp 76)) (a := (fun s w => s5_p20 K B1 (s 3) (s 4) (s 5) (s 10) (s 13) (s 24) (s 25) (s 26) w) s w) (a' := (s5_p20_den K (fun s w => B1 [s 3, s 4, s 5, s 24, s 25, s 26] w)) s w) (b := (fun s w => s5_p15 K B1 (s 3) (s 4) (s 5) (s 10) (s 13) (s 24) (s 25) (s 26) w) s w) (b' := (s5_p15_den K (fun s w => B1 [s 3, s 4, s 5, s 24, s 25, s 26] w)) s w) (p := s5_p21 K B1 (s 3) (s 4) (s 5) (s 10) (s 13) (s 24) (s 25) (s 26) (s 76) w) (q := s5_p21_den K (fun s w => B1 [s 3, s 4, s 5, s 24, s 25, s 26] w) s w) ((fun s w h => s5_p20_ok K B1 s w @h) s w) ((fun s w h => s5_p15_ok K B1 s w @h) s w) (by kernel_rfl) (by kernel_rfl) @h
def s5_p22 (K : Value → World → Prop) (B1 : List Value → World → Prop) (t3 t4 t5 t7 t10 t11 t13 t24 t25 t26 : Value) (w : World) : Prop :=
  fd 0 t7 (fun t70 w =>
  ld1 t70 (fun t71 w =>
  boI .eql t71 (.int .i64 2) (fun t72 w =>
  gd t72 true (fun K w => K t11 w) (fun t74 w =>
  gd t72 true (boI .eql t74 (.int .i64 0)) (fun t75 w =>
  pk t72 t75 (.bool false) (fun t76 w =>
  s5_p21 K B1 t3 t4 t5 t10 t13 t24 t25 t26 t76 w) w) w) w) w) w) w
def s5_p22_den (K : Value → World → Prop) (M1 : (Nat → Value) → World → Prop) : (Nat → Value) → World → Prop := denL Try.prog [(cd (Try.f5.body.getD .skip) [1, 1, 1, 1, 1, 0, 1, 0, 0, 1, 1, 0, 0, 1, 1, 1, 1, 1, 1, 1, 0, 0])] (s5_p21_den K M1) (fun i => (bif Nat.beq i 1 then (s5_p2_den K M1) else (bif Nat.beq i 0 then (s5_p1_den K) else (fun _ _ => False)))) (s5_R K)
theorem s5_p22_ok (K : Value → World → Prop) (B1 : List Value → World → Prop) (s : Nat → Value) (w : World) (h : s5_p22 K B1 (s 3) (s 4) (s 5) (s 7) (s 10) (s 11) (s 13) (s 24) (s 25) (s 26) w) : Tr (s5_p22_den K (fun s w => B1 [s 3, s 4, s 5, s 24, s 25, s 26] w) s w) :=
  tr_simple (P := Try.prog) (codes := [(cd (Try.f5.body.getD .skip) [1, 1, 1, 1, 1, 0, 1, 0, 0, 1, 1, 0, 0, 1, 1, 1, 1, 1, 1, 1, 0, 0])]) (N := (fun s w => s5_p21 K B1 (s 3) (s 4) (s 5) (s 10) (s 13) (s 24) (s 25) (s 26) (s 76) w)) (N' := (s5_p21_den K (fun s w => B1 [s 3, s 4, s 5, s 24, s 25, s 26] w))) (X := (fun i => (bif Nat.beq i 1 then (fun s w => s5_p2 K B1 (s 3) (s 4) (s 5) (s 24) (s 25) (s 26) w) else (bif Nat.beq i 0 then (fun s w => s5_p1 K w) else (fun _ _ => False))))) (X' := (fun i => (bif Nat.beq i 1 then (s5_p2_den K (fun s w => B1 [s 3, s 4, s 5, s 24, s 25, s 26] w)) else (bif Nat.beq i 0 then (s5_p1_den K) else (fun _ _ => False))))) (R := s5_R K) (s := s) (w := w) (p := s5_p22 K B1 (s 3) (s 4) (s 5) (s 7) (s 10) (s 11) (s 13) (s 24) (s 25) (s 26) w) (q := s5_p22_den K (fun s w => B1 [s 3, s 4, s 5, s 24, s 25, s 26] w) s w) (fun s w h => s5_p21_ok K B1 s w @h) (fun i => (tr_bif (fun s w h => s5_p2_ok K B1 s w @h) (tr_bif (fun s w h => s5_p1_ok K s w @h) tr_id))) (by kernel_rfl) (by kernel_rfl) @h
def s5_p23_d (K : Value → World → Prop) (B1 : List Value → World → Prop) (t3 t4 t5 t7 t10 t11 t13 t24 t25 t26 : Value) (w0 w : World) : Prop :=
  fd 1 t7 (fun t64 _ =>
  ld1 t64 (fun t65 _ =>
  fd 2 t7 (fun t66 _ =>
  ld1 t66 (fun t67 _ =>
  ixa 12 1 t5 t65 (fun t69 _ =>
  cl Try.prog 21 #[t67] (fun t68 w =>
  Below w0.heap.size w0 w ∧
  st1 t69 t68 (fun w =>
  s5_p22 K B1 t3 t4 t5 t7 t10 t11 t13 t24 t25 t26 w) w) w) w0) w0) w0) w0) w0
def s5_p23 (K : Value → World → Prop) (B1 : List Value → World → Prop) (t3 t4 t5 t7 t10 t11 t13 t24 t25 t26 : Value) (w : World) : Prop := s5_p23_d K B1 t3 t4 t5 t7 t10 t11 t13 t24 t25 t26 (drw w) (drw w)
def s5_p23_den (K : Value → World → Prop) (M1 : (Nat → Value) → World → Prop) : (Nat → Value) → World → Prop := denL Try.prog [(cd (Try.f5.body.getD .skip) [1, 1, 1, 1, 1, 0, 1, 0, 0, 1, 1, 0, 0, 1, 1, 1, 1, 1, 1, 0, 1, 0])] (s5_p22_den K M1) (fun i => (bif Nat.beq i 1 then (s5_p2_den K M1) else (bif Nat.beq i 0 then (s5_p1_den K) else (fun _ _ => False)))) (s5_R K)
theorem s5_p23_ok (K : Value → World → Prop) (B1 : List Value → World → Prop) (s : Nat → Value) (w : World) (h : s5_p23 K B1 (s 3) (s 4) (s 5) (s 7) (s 10) (s 11) (s 13) (s 24) (s 25) (s 26) w) : Tr (s5_p23_den K (fun s w => B1 [s 3, s 4, s 5, s 24, s 25, s 26] w) s w) :=
  tr_draw (P := Try.prog) (ops := (ro (cd (Try.f5.body.getD .skip) [1, 1, 1, 1, 1, 0, 1, 0, 0, 1, 1, 0, 0, 1, 1, 1, 1, 1, 1, 0, 1, 0]))) (ms := [0, 1, 0, 4, 12, 31, 63]) (cs := [0, 1, 2, 3, 5]) (N := (fun s w => s5_p22 K B1 (s 3) (s 4) (s 5) (s 7) (s 10) (s 11) (s 13) (s 24) (s 25) (s 26) w)) (N' := (s5_p22_den K (fun s w => B1 [s 3, s 4, s 5, s 24, s 25, s 26] w))) (s := s) (w := w) (p := s5_p23 K B1 (s 3) (s 4) (s 5) (s 7) (s 10) (s 11) (s 13) (s 24) (s 25) (s 26) w) (q := s5_p23_den K (fun s w => B1 [s 3, s 4, s 5, s 24, s 25, s 26] w) s w) (by kernel_rfl) (by kernel_rfl) (fun s w h => s5_p22_ok K B1 s w @h) (by kernel_rfl) (by kernel_rfl) @h
def s5_p24 (K : Value → World → Prop) (B1 : List Value → World → Prop) (t3 t4 t5 t7 t10 t11 t13 t24 t25 t26 t63 : Value) (w : World) : Prop :=
  ifb t63
  (s5_p23 K B1 t3 t4 t5 t7 t10 t11 t13 t24 t25 t26 w)
  (s5_p22 K B1 t3 t4 t5 t7 t10 t11 t13 t24 t25 t26 w)
def s5_p24_den (K : Value → World → Prop) (M1 : (Nat → Value) → World → Prop) : (Nat → Value) → World → Prop := fun s w => ifb (ev s (.tmp 63)) ((s5_p23_den K M1) s w) ((s5_p22_den K M1) s w)
theorem s5_p24_ok (K : Value → World → Prop) (B1 : List Value → World → Prop) (s : Nat → Value) (w : World) (h : s5_p24 K B1 (s 3) (s 4) (s 5) (s 7) (s 10) (s 11) (s 13) (s 24) (s 25) (s 26) (s 63) w) : Tr (s5_p24_den K (fun s w => B1 [s 3, s 4, s 5, s 24, s 25, s 26] w) s w) :=
  tr_cond (v := ev s (.tmp 63)) (a := (fun s w => s5_p23 K B1 (s 3) (s 4) (s 5) (s 7) (s 10) (s 11) (s 13) (s 24) (s 25) (s 26) w) s w) (a' := (s5_p23_den K (fun s w => B1 [s 3, s 4, s 5, s 24, s 25, s 26] w)) s w) (b := (fun s w => s5_p22 K B1 (s 3) (s 4) (s 5) (s 7) (s 10) (s 11) (s 13) (s 24) (s 25) (s 26) w) s w) (b' := (s5_p22_den K (fun s w => B1 [s 3, s 4, s 5, s 24, s 25, s 26] w)) s w) (p := s5_p24 K B1 (s 3) (s 4) (s 5) (s 7) (s 10) (s 11) (s 13) (s 24) (s 25) (s 26) (s 63) w) (q := s5_p24_den K (fun s w => B1 [s 3, s 4, s 5, s 24, s 25, s 26] w) s w) ((fun s w h => s5_p23_ok K B1 s w @h) s w) ((fun s w h => s5_p22_ok K B1 s w @h) s w) (by kernel_rfl) (by kernel_rfl) @h
def s5_p25 (K : Value → World → Prop) (B1 : List Value → World → Prop) (t3 t4 t5 t7 t8 t10 t24 t25 t26 : Value) (w : World) : Prop :=
  ldn 8 t7 (fun t44 w =>
  cl Try.prog 14 #[t3, t44] (fun t45 w =>
  exq t45 0 (fun t46 w =>
  exq t45 1 (fun t47 w =>
  cl Try.prog 20 #[t3] (fun t49 w =>
  gd t49 true (fun K w => K t8 w) (fun t51 w =>
  gd t49 true (un .not t51) (fun t52 w =>
  pk t49 t52 (.bool false) (fun t53 w =>
  fd 0 t7 (fun t54 w =>
  ld1 t54 (fun t55 w =>
  boI .eql t55 (.int .i64 0) (fun t56 w =>
  gd t56 true (fun K w => K t46 w) (fun t58 w =>
  gd t56 true (boI .eql t58 (.int .i64 0)) (fun t59 w =>
  gd t56 true (fun K w => K t59 w) (fun t60 w =>
  gd t60 false (fun K w => K t53 w) (fun t61 w =>
  gd t56 true (pk t60 (.bool true) t61) (fun t62 w =>
  pk t56 t62 (.bool false) (fun t63 w =>
  s5_p24 K B1 t3 t4 t5 t7 t10 t46 t53 t24 t25 t26 t63 w) w) w) w) w) w) w) w) w) w) w) w) w) w) w) w) w) w
def s5_p25_den (K : Value → World → Prop) (M1 : (Nat → Value) → World → Prop) : (Nat → Value) → World → Prop := denL Try.prog [(cd (Try.f5.body.getD .skip) [1, 1, 1, 1, 1, 0, 1, 0, 0, 1, 1, 0, 0, 1, 1, 1, 1, 0]), (cd (Try.f5.body.getD .skip) [1, 1, 1, 1, 1, 0, 1, 0, 0, 1, 1, 0, 0, 1, 1, 1, 1, 1, 0]), (cd (Try.f5.body.getD .skip) [1, 1, 1, 1, 1, 0, 1, 0, 0, 1, 1, 0, 0, 1, 1, 1, 1, 1, 1, 0, 0])] (s5_p24_den K M1) (fun i => (bif Nat.beq i 1 then (s5_p2_den K M1) else (bif Nat.beq i 0 then (s5_p1_den K) else (fun _ _ => False)))) (s5_R K)
theorem s5_p25_ok (K : Value → World → Prop) (B1 : List Value → World → Prop) (s : Nat → Value) (w : World) (h : s5_p25 K B1 (s 3) (s 4) (s 5) (s 7) (s 8) (s 10) (s 24) (s 25) (s 26) w) : Tr (s5_p25_den K (fun s w => B1 [s 3, s 4, s 5, s 24, s 25, s 26] w) s w) :=
  tr_simple (P := Try.prog) (codes := [(cd (Try.f5.body.getD .skip) [1, 1, 1, 1, 1, 0, 1, 0, 0, 1, 1, 0, 0, 1, 1, 1, 1, 0]), (cd (Try.f5.body.getD .skip) [1, 1, 1, 1, 1, 0, 1, 0, 0, 1, 1, 0, 0, 1, 1, 1, 1, 1, 0]), (cd (Try.f5.body.getD .skip) [1, 1, 1, 1, 1, 0, 1, 0, 0, 1, 1, 0, 0, 1, 1, 1, 1, 1, 1, 0, 0])]) (N := (fun s w => s5_p24 K B1 (s 3) (s 4) (s 5) (s 7) (s 10) (s 11) (s 13) (s 24) (s 25) (s 26) (s 63) w)) (N' := (s5_p24_den K (fun s w => B1 [s 3, s 4, s 5, s 24, s 25, s 26] w))) (X := (fun i => (bif Nat.beq i 1 then (fun s w => s5_p2 K B1 (s 3) (s 4) (s 5) (s 24) (s 25) (s 26) w) else (bif Nat.beq i 0 then (fun s w => s5_p1 K w) else (fun _ _ => False))))) (X' := (fun i => (bif Nat.beq i 1 then (s5_p2_den K (fun s w => B1 [s 3, s 4, s 5, s 24, s 25, s 26] w)) else (bif Nat.beq i 0 then (s5_p1_den K) else (fun _ _ => False))))) (R := s5_R K) (s := s) (w := w) (p := s5_p25 K B1 (s 3) (s 4) (s 5) (s 7) (s 8) (s 10) (s 24) (s 25) (s 26) w) (q := s5_p25_den K (fun s w => B1 [s 3, s 4, s 5, s 24, s 25, s 26] w) s w) (fun s w h => s5_p24_ok K B1 s w @h) (fun i => (tr_bif (fun s w h => s5_p2_ok K B1 s w @h) (tr_bif (fun s w h => s5_p1_ok K s w @h) tr_id))) (by kernel_rfl) (by kernel_rfl) @h
def s5_p26 (K : Value → World → Prop) (B1 : List Value → World → Prop) (t3 t4 t5 t24 t25 t26 : Value) (w : World) : Prop :=
  ixs 8 t24 t26 (fun t28 w =>
  ldn 8 t28 (fun t29 w =>
  nw 34 #[(.int .i64 0), (.int .i64 0), (.slice none 0 0), (.int .i64 0), (.int .i64 0), (.slice none 0 0), (.int .i64 0), (.int .i64 0)] (fun t7 w =>
  stn 8 t7 t29 (fun w =>
  cl Try.prog 20 #[t3] (fun t31 w =>
  cl Try.prog 23 #[t3] (fun t34 w =>
  exq t34 0 (fun t35 w =>
  exq t34 1 (fun t36 w =>
  nw 32 #[(.slice none 0 0), (.int .i64 0), (.int .i64 0)] (fun t10 w =>
  stn 3 t10 t36 (fun w =>
  fd 0 t7 (fun t37 w =>
  ld1 t37 (fun t38 w =>
  boI .eql t38 (.int .i64 3) (fun t39 w =>
  ifb t39
  (fd 5 t7 (fun t40 w =>
  ldn 3 t40 (fun t41 w =>
  stn 3 t10 t41 (fun w =>
  s5_p25 K B1 t3 t4 t5 t7 t31 t10 t24 t25 t26 w) w) w) w)
  (s5_p25 K B1 t3 t4 t5 t7 t31 t10 t24 t25 t26 w)) w) w) w) w) w) w) w) w) w) w) w) w) w
def s5_p26_den (K : Value → World → Prop) (M1 : (Nat → Value) → World → Prop) : (Nat → Value) → World → Prop := denL Try.prog [(cd (Try.f5.body.getD .skip) [1, 1, 1, 1, 1, 0, 1, 0, 0, 1, 1, 0, 0, 0]), (cd (Try.f5.body.getD .skip) [1, 1, 1, 1, 1, 0, 1, 0, 0, 1, 1, 0, 0, 1, 0]), (cd (Try.f5.body.getD .skip) [1, 1, 1, 1, 1, 0, 1, 0, 0, 1, 1, 0, 0, 1, 1, 0]), (cd (Try.f5.body.getD .skip) [1, 1, 1, 1, 1, 0, 1, 0, 0, 1, 1, 0, 0, 1, 1, 1, 0, 0]), (cd (Try.f5.body.getD .skip) [1, 1, 1, 1, 1, 0, 1, 0, 0, 1, 1, 0, 0, 1, 1, 1, 0, 1])] (s5_p25_den K M1) (fun i => (bif Nat.beq i 1 then (s5_p2_den K M1) else (bif Nat.beq i 0 then (s5_p1_den K) else (fun _ _ => False)))) (s5_R K)
theorem s5_p26_ok (K : Value → World → Prop) (B1 : List Value → World → Prop) (s : Nat → Value) (w : World) (h : s5_p26 K B1 (s 3) (s 4) (s 5) (s 24) (s 25) (s 26) w) : Tr (s5_p26_den K (fun s w => B1 [s 3, s 4, s 5, s 24, s 25, s 26] w) s w) :=
  tr_simple (P := Try.prog) (codes := [(cd (Try.f5.body.getD .skip) [1, 1, 1, 1, 1, 0, 1, 0, 0, 1, 1, 0, 0, 0]), (cd (Try.f5.body.getD .skip) [1, 1, 1, 1, 1, 0, 1, 0, 0, 1, 1, 0, 0, 1, 0]), (cd (Try.f5.body.getD .skip) [1, 1, 1, 1, 1, 0, 1, 0, 0, 1, 1, 0, 0, 1, 1, 0]), (cd (Try.f5.body.getD .skip) [1, 1, 1, 1, 1, 0, 1, 0, 0, 1, 1, 0, 0, 1, 1, 1, 0, 0]), (cd (Try.f5.body.getD .skip) [1, 1, 1, 1, 1, 0, 1, 0, 0, 1, 1, 0, 0, 1, 1, 1, 0, 1])]) (N := (fun s w => s5_p25 K B1 (s 3) (s 4) (s 5) (s 7) (s 8) (s 10) (s 24) (s 25) (s 26) w)) (N' := (s5_p25_den K (fun s w => B1 [s 3, s 4, s 5, s 24, s 25, s 26] w))) (X := (fun i => (bif Nat.beq i 1 then (fun s w => s5_p2 K B1 (s 3) (s 4) (s 5) (s 24) (s 25) (s 26) w) else (bif Nat.beq i 0 then (fun s w => s5_p1 K w) else (fun _ _ => False))))) (X' := (fun i => (bif Nat.beq i 1 then (s5_p2_den K (fun s w => B1 [s 3, s 4, s 5, s 24, s 25, s 26] w)) else (bif Nat.beq i 0 then (s5_p1_den K) else (fun _ _ => False))))) (R := s5_R K) (s := s) (w := w) (p := s5_p26 K B1 (s 3) (s 4) (s 5) (s 24) (s 25) (s 26) w) (q := s5_p26_den K (fun s w => B1 [s 3, s 4, s 5, s 24, s 25, s 26] w) s w) (fun s w h => s5_p25_ok K B1 s w @h) (fun i => (tr_bif (fun s w h => s5_p2_ok K B1 s w @h) (tr_bif (fun s w h => s5_p1_ok K s w @h) tr_id))) (by kernel_rfl) (by kernel_rfl) @h
def s5_p27 (K : Value → World → Prop) (B1 : List Value → World → Prop) (t3 t4 t5 t24 t25 t26 : Value) (w : World) : Prop :=
  boI .lss t26 t25 (fun t27 w =>
  ifb t27
  (s5_p26 K B1 t3 t4 t5 t24 t25 t26 w)
  (s5_p1 K w)) w
def s5_p27_den (K : Value → World → Prop) (M1 : (Nat → Value) → World → Prop) : (Nat → Value) → World → Prop := denL Try.prog [(cd (Try.f5.body.getD .skip) [1, 1, 1, 1, 1, 0, 1, 0, 0, 0]), (cd (Try.f5.body.getD .skip) [1, 1, 1, 1, 1, 0, 1, 0, 0, 1, 0])] (s5_p26_den K M1) (fun i => (bif Nat.beq i 0 then (s5_p1_den K) else (fun _ _ => False))) (s5_R K)
theorem s5_p27_ok (K : Value → World → Prop) (B1 : List Value → World → Prop) (s : Nat → Value) (w : World) (h : s5_p27 K B1 (s 3) (s 4) (s 5) (s 24) (s 25) (s 26) w) : Tr (s5_p27_den K (fun s w => B1 [s 3, s 4, s 5, s 24, s 25, s 26] w) s w) :=
  tr_simple (P := Try.prog) (codes := [(cd (Try.f5.body.getD .skip) [1, 1, 1, 1, 1, 0, 1, 0, 0, 0]), (cd (Try.f5.body.getD .skip) [1, 1, 1, 1, 1, 0, 1, 0, 0, 1, 0])]) (N := (fun s w => s5_p26 K B1 (s 3) (s 4) (s 5) (s 24) (s 25) (s 26) w)) (N' := (s5_p26_den K (fun s w => B1 [s 3, s 4, s 5, s 24, s 25, s 26] w))) (X := (fun i => (bif Nat.beq i 0 then (fun s w => s5_p1 K w) else (fun _ _ => False)))) (X' := (fun i => (bif Nat.beq i 0 then (s5_p1_den K) else (fun _ _ => False)))) (R := s5_R K) (s := s) (w := w) (p := s5_p27 K B1 (s 3) (s 4) (s 5) (s 24) (s 25) (s 26) w) (q := s5_p27_den K (fun s w => B1 [s 3, s 4, s 5, s 24, s 25, s 26] w) s w) (fun s w h => s5_p26_ok K B1 s w @h) (fun i => (tr_bif (fun s w h => s5_p1_ok K s w @h) tr_id)) (by kernel_rfl) (by kernel_rfl) @h
def s5_p28_F (K : Value → World → Prop) (B1 : List Value → World → Prop) (l : List Value) (w : World) : Prop :=
  match l with
  | [t3, t4, t5, t24, t25, t26] => s5_p27 K B1 t3 t4 t5 t24 t25 t26 w
  | _ => False
theorem s5_p28_Fe {K : Value → World → Prop} {B1 : List Value → World → Prop} {t3 t4 t5 t24 t25 t26 : Value} {w : World} : s5_p28_F K B1 [t3, t4, t5, t24, t25, t26] w = s5_p27 K B1 t3 t4 t5 t24 t25 t26 w := by kernel_rfl
def s5_p28 (K : Value → World → Prop) (t3 t4 t5 t24 t25 t26 : Value) (w : World) : Prop :=
  LoopL (s5_p28_F K) [t3, t4, t5, t24, t25, t26] w
def s5_p28_den (K : Value → World → Prop) : (Nat → Value) → World → Prop := fun s w => LoopP (fun M1 s w => s5_p27_den K M1 s w) s w
theorem s5_p28_ok (K : Value → World → Prop) (s : Nat → Value) (w : World) (h : s5_p28 K (s 3) (s 4) (s 5) (s 24) (s 25) (s 26) w) : Tr (s5_p28_den K s w) :=
  tr_loop (G := fun N' s w => s5_p27_den K N' s w) (F := s5_p28_F K) (sel := fun s => [s 3, s 4, s 5, s 24, s 25, s 26]) (s := s) (w := w) (p := s5_p28 K (s 3) (s 4) (s 5) (s 24) (s 25) (s 26) w) (q := s5_p28_den K s w) (fun B s w h => s5_p27_ok K B s w @h) (by kernel_rfl) (by kernel_rfl) @h
def s5_p29 (K : Value → World → Prop) (t0 : Value) (w : World) : Prop :=
  cl Try.prog 11 #[t0] (fun t19 w =>
  un .not t19 (fun t20 w =>
  ifb t20
  (K (.bool true) w)
  (cl Try.prog 12 #[] (fun t21 w =>
  cl Try.prog 22 #[t21] (fun t23 w =>
  nw 48 #[(.slice none 0 0), (.slice none 0 0), (.slice none 0 0), (.slice none 0 0), (.slice none 0 0), (.slice none 0 0), (.slice none 0 0), (.slice none 0 0), (.slice none 0 0), (.slice none 0 0), (.slice none 0 0), (.slice none 0 0)] (fun t5 w =>
  lnS t0 (fun t25 w =>
  s5_p28 K t21 t23 t5 t0 t25 (.int .i64 0) w) w) w) w) w)) w) w
def s5_p29_den (K : Value → World → Prop) : (Nat → Value) → World → Prop := denL Try.prog [(cd (Try.f5.body.getD .skip) [0]), (cd (Try.f5.body.getD .skip) [1, 0, 0]), (cd (Try.f5.body.getD .skip) [1, 0, 1]), (cd (Try.f5.body.getD .skip) [1, 1, 0]), (cd (Try.f5.body.getD .skip) [1, 1, 1, 0]), (cd (Try.f5.body.getD .skip) [1, 1, 1, 1, 0]), (cd (Try.f5.body.getD .skip) [1, 1, 1, 1, 1, 0, 0])] (s5_p28_den K) (fun i => (fun _ _ => False)) (s5_R K)
theorem s5_p29_ok (K : Value → World → Prop) (s : Nat → Value) (w : World) (h : s5_p29 K (s 0) w) : Tr (s5_p29_den K s w) :=
  tr_simple (P := Try.prog) (codes := [(cd (Try.f5.body.getD .skip) [0]), (cd (Try.f5.body.getD .skip) [1, 0, 0]), (cd (Try.f5.body.getD .skip) [1, 0, 1]), (cd (Try.f5.body.getD .skip) [1, 1, 0]), (cd (Try.f5.body.getD .skip) [1, 1, 1, 0]), (cd (Try.f5.body.getD .skip) [1, 1, 1, 1, 0]), (cd (Try.f5.body.getD .skip) [1, 1, 1, 1, 1, 0, 0])]) (N := (fun s w => s5_p28 K (s 3) (s 4) (s 5) (s 24) (s 25) (s 26) w)) (N' := (s5_p28_den K)) (X := (fun i => (fun _ _ => False))) (X' := (fun i => (fun _ _ => False))) (R := s5_R K) (s := s) (w := w) (p := s5_p29 K (s 0) w) (q := s5_p29_den K s w) (fun s w h => s5_p28_ok K s w @h) (fun i => tr_id) (by kernel_rfl) (by kernel_rfl) @h
/-- the call, from the text -/
theorem c5 (t0 : Value) {K : Value → World → Prop} {w : World} (h : s5_p29 K t0 w) : cl Try.prog 5 #[t0] K w :=
  calls_of_tr (c := (Try.f5.body.getD .skip)) (fn := Try.f5) (q := s5_p29_den K (st0 #[t0]) w) Try.func5 (by kernel_rfl) (by kernel_rfl) (Nat.le_of_ble_eq_true (by kernel_rfl)) (by kernel_rfl) (by kernel_rfl) (s5_p29_ok K (st0 #[t0]) w @h)

/-! ### function 6 : e2e.disklaw.RefusedChangesNothing -/
def s6_R (K : Value → World → Prop) (s : Nat → Value) (w : World) : Prop := retv Try.prog s Try.f6.results.toList (fun vs => K (pack vs) w) w
def s6_p1 (K : Value → World → Prop) (w : World) : Prop :=
  K (.bool true) w
def s6_p1_den (K : Value → World → Prop) : (Nat → Value) → World → Prop := denL Try.prog [(cd (Try.f6.body.getD .skip) [1, 1, 1, 1, 0]), (cd (Try.f6.body.getD .skip) [1, 1, 1, 1, 1])] (fun _ _ => False) (fun i => (fun _ _ => False)) (s6_R K)
theorem s6_p1_ok (K : Value → World → Prop) (s : Nat → Value) (w : World) (h : s6_p1 K w) : Tr (s6_p1_den K s w) :=
  tr_simple (P := Try.prog) (codes := [(cd (Try.f6.body.getD .skip) [1, 1, 1, 1, 0]), (cd (Try.f6.body.getD .skip) [1, 1, 1, 1, 1])]) (N := (fun _ _ => False)) (N' := (fun _ _ => False)) (X := (fun i => (fun _ _ => False))) (X' := (fun i => (fun _ _ => False))) (R := s6_R K) (s := s) (w := w) (p := s6_p1 K w) (q := s6_p1_den K s w) tr_id (fun i => tr_id) (by kernel_rfl) (by kernel_rfl) @h
def s6_p2 (K : Value → World → Prop) (B1 : List Value → World → Prop) (t3 t16 t17 t18 : Value) (w : World) : Prop :=
  boI .add t18 (.int .i64 1) (fun t119 w =>
  B1 [t3, t16, t17, t119] w) w
def s6_p2_den (K : Value → World → Prop) (M1 : (Nat → Value) → World → Prop) : (Nat → Value) → World → Prop := denL Try.prog [(cd (Try.f6.body.getD .skip) [1, 1, 1, 0, 1, 0, 0, 1, 1, 1])] M1 (fun i => (bif Nat.beq i 0 then (s6_p1_den K) else (fun _ _ => False))) (s6_R K)
theorem s6_p2_ok (K : Value → World → Prop) (B1 : List Value → World → Prop) (s : Nat → Value) (w : World) (h : s6_p2 K B1 (s 3) (s 16) (s 17) (s 18) w) : Tr (s6_p2_den K (fun s w => B1 [s 3, s 16, s 17, s 18] w) s w) :=
  tr_simple (P := Try.prog) (codes := [(cd (Try.f6.body.getD .skip) [1, 1, 1, 0, 1, 0, 0, 1, 1, 1])]) (N := (fun s w => B1 [s 3, s 16, s 17, s 18] w)) (N' := (fun s w => B1 [s 3, s 16, s 17, s 18] w)) (X := (fun i => (bif Nat.beq i 0 then (fun s w => s6_p1 K w) else (fun _ _ => False)))) (X' := (fun i => (bif Nat.beq i 0 then (s6_p1_den K) else (fun _ _ => False)))) (R := s6_R K) (s := s) (w := w) (p := s6_p2 K B1 (s 3) (s 16) (s 17) (s 18) w) (q := s6_p2_den K (fun s w => B1 [s 3, s 16, s 17, s 18] w) s w) tr_id (fun i => (tr_bif (fun s w h => s6_p1_ok K s w @h) tr_id)) (by kernel_rfl) (by kernel_rfl) @h
def s6_p3 (K : Value → World → Prop) (B1 : List Value → World → Prop) (t3 t16 t17 t18 t118 : Value) (w : World) : Prop :=
  ifb t118
  (K (.bool false) w)
  (s6_p2 K B1 t3 t16 t17 t18 w)
def s6_p3_den (K : Value → World → Prop) (M1 : (Nat → Value) → World → Prop) : (Nat → Value) → World → Prop := denL Try.prog [(cd (Try.f6.body.getD .skip) [1, 1, 1, 0, 1, 0, 0, 1, 1, 0, 0, 1, 1, 1, 1, 1, 1, 1, 0, 1])] (s6_p2_den K M1) (fun i => (bif Nat.beq i 1 then (s6_p2_den K M1) else (bif Nat.beq i 0 then (s6_p1_den K) else (fun _ _ => False)))) (s6_R K)
theorem s6_p3_ok (K : Value → World → Prop) (B1 : List Value → World → Prop) (s : Nat → Value) (w : World) (h : s6_p3 K B1 (s 3) (s 16) (s 17) (s 18) (s 118) w) : Tr (s6_p3_den K (fun s w => B1 [s 3, s 16, s 17, s 18] w) s w) :=
  tr_simple (P := Try.prog) (codes := [(cd (Try.f6.body.getD .skip) [1, 1, 1, 0, 1, 0, 0, 1, 1, 0, 0, 1, 1, 1, 1, 1, 1, 1, 0, 1])]) (N := (fun s w => s6_p2 K B1 (s 3) (s 16) (s 17) (s 18) w)) (N' := (s6_p2_den K (fun s w => B1 [s 3, s 16, s 17, s 18] w))) (X := (fun i => (bif Nat.beq i 1 then (fun s w => s6_p2 K B1 (s 3) (s 16) (s 17) (s 18) w) else (bif Nat.beq i 0 then (fun s w => s6_p1 K w) else (fun _ _ => False))))) (X' := (fun i => (bif Nat.beq i 1 then (s6_p2_den K (fun s w => B1 [s 3, s 16, s 17, s 18] w)) else (bif Nat.beq i 0 then (s6_p1_den K) else (fun _ _ => False))))) (R := s6_R K) (s := s) (w := w) (p := s6_p3 K B1 (s 3) (s 16) (s 17) (s 18) (s 118) w) (q := s6_p3_den K (fun s w => B1 [s 3, s 16, s 17, s 18] w) s w) (fun s w h => s6_p2_ok K B1 s w @h) (fun i => (tr_bif (fun s w h => s6_p2_ok K B1 s w @h) (tr_bif (fun s w h => s6_p1_ok K s w @h) tr_id))) (by kernel_rfl) (by kernel_rfl) @h
def s6_p4_d (K : Value → World → Prop) (B1 : List Value → World → Prop) (t3 t6 t8 t16 t17 t18 : Value) (w0 w : World) : Prop :=
  ldn 13 t6 (fun t109 _ =>
  cl Try.prog 18 #[t3] (fun t111 w =>
  Below w0.heap.size w0 w ∧
  cl Try.prog 17 #[t109, t111] (fun t112 w =>
  un .not t112 (fun t113 w =>
  gd t113 false (fun K w => K t8 w) (fun t115 w =>
  gd t113 false (cl Try.prog 29 #[t115]) (fun t116 w =>
  gd t113 false (un .not t116) (fun t117 w =>
  pk t113 (.bool true) t117 (fun t118 w =>
  s6_p3 K B1 t3 t16 t17 t18 t118 w) w) w) w) w) w) w) w) w0
def s6_p4 (K : Value → World → Prop) (B1 : List Value → World → Prop) (t3 t6 t8 t16 t17 t18 : Value) (w : World) : Prop := s6_p4_d K B1 t3 t6 t8 t16 t17 t18 (drw w) (drw w)
def s6_p4_den (K : Value → World → Prop) (M1 : (Nat → Value) → World → Prop) : (Nat → Value) → World → Prop := denL Try.prog [(cd (Try.f6.body.getD .skip) [1, 1, 1, 0, 1, 0, 0, 1, 1, 0, 0, 1, 1, 1, 1, 1, 1, 1, 0, 0])] (s6_p3_den K M1) (fun i => (bif Nat.beq i 1 then (s6_p2_den K M1) else (bif Nat.beq i 0 then (s6_p1_den K) else (fun _ _ => False)))) (s6_R K)
theorem s6_p4_ok (K : Value → World → Prop) (B1 : List Value → World → Prop) (s : Nat → Value) (w : World) (h : s6_p4 K B1 (s 3) (s 6) (s 8) (s 16) (s 17) (s 18) w) : Tr (s6_p4_den K (fun s w => B1 [s 3, s 16, s 17, s 18] w) s w) :=
  tr_draw (P := Try.prog) (ops := (ro (cd (Try.f6.body.getD .skip) [1, 1, 1, 0, 1, 0, 0, 1, 1, 0, 0, 1, 1, 1, 1, 1, 1, 1, 0, 0]))) (ms := [0, 0, 2, 7, 15, 31, 63, 127, 255, 511]) (cs := [0, 1]) (N := (fun s w => s6_p3 K B1 (s 3) (s 16) (s 17) (s 18) (s 118) w)) (N' := (s6_p3_den K (fun s w => B1 [s 3, s 16, s 17, s 18] w))) (s := s) (w := w) (p := s6_p4 K B1 (s 3) (s 6) (s 8) (s 16) (s 17) (s 18) w) (q := s6_p4_den K (fun s w => B1 [s 3, s 16, s 17, s 18] w) s w) (by kernel_rfl) (by kernel_rfl) (fun s w h => s6_p3_ok K B1 s w @h) (by kernel_rfl) (by kernel_rfl) @h
def s6_p5 (K : Value → World → Prop) (B1 : List Value → World → Prop) (t3 t6 t8 t16 t17 t18 t108 : Value) (w : World) : Prop :=
  ifb t108
  (s6_p4 K B1 t3 t6 t8 t16 t17 t18 w)
  (s6_p2 K B1 t3 t16 t17 t18 w)
def s6_p5_den (K : Value → World → Prop) (M1 : (Nat → Value) → World → Prop) : (Nat → Value) → World → Prop := fun s w => ifb (ev s (.tmp 108)) ((s6_p4_den K M1) s w) ((s6_p2_den K M1) s w)
theorem s6_p5_ok (K : Value → World → Prop) (B1 : List Value → World → Prop) (s : Nat → Value) (w : World) (h : s6_p5 K B1 (s 3) (s 6) (s 8) (s 16) (s 17) (s 18) (s 108) w) : Tr (s6_p5_den K (fun s w => B1 [s 3, s 16, s 17, s 18] w) s w) :=
  tr_cond (v := ev s (.tmp 108)) (a := (fun s w => s6_p4 K B1 (s 3) (s 6) (s 8) (s 16) (s 17) (s 18) w) s w) (a' := (s6_p4_den K (fun s w => B1 [s 3, s 16, s 17, s 18] w)) s w) (b := (fun s w => s6_p2 K B1 (s 3) (s 16) (s 17) (s 18) w) s w) (b' := (s6_p2_den K (fun s w => B1 [s 3, s 16, s 17, s 18] w)) s w) (p := s6_p5 K B1 (s 3) (s 6) (s 8) (s 16) (s 17) (s 18) (s 108) w) (q := s6_p5_den K (fun s w => B1 [s 3, s 16, s 17, s 18] w) s w) ((fun s w h => s6_p4_ok K B1 s w @h) s w) ((fun s w h => s6_p2_ok K B1 s w @h) s w) (by kernel_rfl) (by kernel_rfl) @h
def s6_p6 (K : Value → World → Prop) (B1 : List Value → World → Prop) (t3 t5 t6 t7 t8 t16 t17 t18 : Value) (w : World) : Prop :=
  fd 0 t6 (fun t75 w =>
  ld1 t75 (fun t76 w =>
  gd t76 true (fd 0 t5) (fun t78 w =>
  gd t76 true (ld1 t78) (fun t79 w =>
  gd t76 true (boI .geq t79 (.int .i64 0)) (fun t80 w =>
  pk t76 t80 (.bool false) (fun t81 w =>
  gd t81 true (fd 0 t5) (fun t83 w =>
  gd t81 true (ld1 t83) (fun t84 w =>
  gd t81 true (boI .lss t84 (.int .i64 7)) (fun t85 w =>
  pk t81 t85 (.bool false) (fun t86 w =>
  gd t86 true (fd 0 t5) (fun t88 w =>
  gd t86 true (ld1 t88) (fun t89 w =>
  gd t86 true (boI .neq t89 (.int .i64 4)) (fun t90 w =>
  pk t86 t90 (.bool false) (fun t91 w =>
  gd t91 true (fun K w => K t7 w) (fun t93 w =>
  gd t91 true (boI .neq t93 (.int .i64 4)) (fun t94 w =>
  pk t91 t94 (.bool false) (fun t95 w =>
  ifb t95
  (K (.bool false) w)
  (cl Try.prog 20 #[t3] (fun t97 w =>
  gd t97 true (fd 0 t6) (fun t99 w =>
  gd t97 true (ld1 t99) (fun t100 w =>
  gd t97 true (un .not t100) (fun t101 w =>
  pk t97 t101 (.bool false) (fun t102 w =>
  boI .neq t7 (.int .i64 0) (fun t104 w =>
  gd t104 true (fun K w => K t102 w) (fun t106 w =>
  gd t104 true (un .not t106) (fun t107 w =>
  pk t104 t107 (.bool false) (fun t108 w =>
  s6_p5 K B1 t3 t6 t8 t16 t17 t18 t108 w) w) w) w) w) w) w) w) w) w)) w) w) w) w) w) w) w) w) w) w) w) w) w) w) w) w) w
def s6_p6_den (K : Value → World → Prop) (M1 : (Nat → Value) → World → Prop) : (Nat → Value) → World → Prop := denL Try.prog [(cd (Try.f6.body.getD .skip) [1, 1, 1, 0, 1, 0, 0, 1, 1, 0, 0, 1, 1, 1, 1, 0, 0]), (cd (Try.f6.body.getD .skip) [1, 1, 1, 0, 1, 0, 0, 1, 1, 0, 0, 1, 1, 1, 1, 0, 1]), (cd (Try.f6.body.getD .skip) [1, 1, 1, 0, 1, 0, 0, 1, 1, 0, 0, 1, 1, 1, 1, 1, 0]), (cd (Try.f6.body.getD .skip) [1, 1, 1, 0, 1, 0, 0, 1, 1, 0, 0, 1, 1, 1, 1, 1, 1, 0])] (s6_p5_den K M1) (fun i => (bif Nat.beq i 1 then (s6_p2_den K M1) else (bif Nat.beq i 0 then (s6_p1_den K) else (fun _ _ => False)))) (s6_R K)
theorem s6_p6_ok (K : Value → World → Prop) (B1 : List Value → World → Prop) (s : Nat → Value) (w : World) (h : s6_p6 K B1 (s 3) (s 5) (s 6) (s 7) (s 8) (s 16) (s 17) (s 18) w) : Tr (s6_p6_den K (fun s w => B1 [s 3, s 16, s 17, s 18] w) s w) :=
  tr_simple (P := Try.prog) (codes := [(cd (Try.f6.body.getD .skip) [1, 1, 1, 0, 1, 0, 0, 1, 1, 0, 0, 1, 1, 1, 1, 0, 0]), (cd (Try.f6.body.getD .skip) [1, 1, 1, 0, 1, 0, 0, 1, 1, 0, 0, 1, 1, 1, 1, 0, 1]), (cd (Try.f6.body.getD .skip) [1, 1, 1, 0, 1, 0, 0, 1, 1, 0, 0, 1, 1, 1, 1, 1, 0]), (cd (Try.f6.body.getD .skip) [1, 1, 1, 0, 1, 0, 0, 1, 1, 0, 0, 1, 1, 1, 1, 1, 1, 0])]) (N := (fun s w => s6_p5 K B1 (s 3) (s 6) (s 8) (s 16) (s 17) (s 18) (s 108) w)) (N' := (s6_p5_den K (fun s w => B1 [s 3, s 16, s 17, s 18] w))) (X := (fun i => (bif Nat.beq i 1 then (fun s w => s6_p2 K B1 (s 3) (s 16) (s 17) (s 18) w) else (bif Nat.beq i 0 then (fun s w => s6_p1 K w) else (fun _ _ => False))))) (X' := (fun i => (bif Nat.beq i 1 then (s6_p2_den K (fun s w => B1 [s 3, s 16, s 17, s 18] w)) else (bif Nat.beq i 0 then (s6_p1_den K) else (fun _ _ => False))))) (R := s6_R K) (s := s) (w := w) (p := s6_p6 K B1 (s 3) (s 5) (s 6) (s 7) (s 8) (s 16) (s 17) (s 18) w) (q := s6_p6_den K (fun s w => B1 [s 3, s 16, s 17, s 18] w) s w) (fun s w h => s6_p5_ok K B1 s w @h) (fun i => (tr_bif (fun s w h => s6_p2_ok K B1 s w @h) (tr_bif (fun s w h => s6_p1_ok K s w @h) tr_id))) (by kernel_rfl) (by kernel_rfl) @h
def s6_p7 (K : Value → World → Prop) (B1 : List Value → World → Prop) (t3 t16 t17 t18 : Value) (w : World) : Prop :=
  ixs 8 t16 t18 (fun t20 w =>
  ldn 8 t20 (fun t21 w =>
  nw 34 #[(.int .i64 0), (.int .i64 0), (.slice none 0 0), (.int .i64 0), (.int .i64 0), (.slice none 0 0), (.int .i64 0), (.int .i64 0)] (fun t5 w =>
  stn 8 t5 t21 (fun w =>
  cl Try.prog 18 #[t3] (fun t23 w =>
  nw 45 #[(.bool false), (.int .i64 0), (.slice none 0 0), (.int .i64 0), (.int .i64 0), (.slice none 0 0), (.int .i64 0), (.int .i64 0), (.int .i64 0), (.int .i64 0), (.int .i64 0), (.slice none 0 0), (.slice none 0 0)] (fun t6 w =>
  stn 13 t6 t23 (fun w =>
  ldn 8 t5 (fun t26 w =>
  cl Try.prog 14 #[t3, t26] (fun t27 w =>
  exq t27 0 (fun t28 w =>
  exq t27 1 (fun t29 w =>
  fd 0 t6 (fun t30 w =>
  ld1 t30 (fun t31 w =>
  un .not t31 (fun t32 w =>
  gd t32 true (fd 0 t5) (fun t34 w =>
  gd t32 true (ld1 t34) (fun t35 w =>
  gd t32 true (boI .eql t35 (.int .i64 1)) (fun t36 w =>
  gd t32 true (fun K w => K t36 w) (fun t37 w =>
  gd t37 false (fd 0 t5) (fun t38 w =>
  gd t37 false (ld1 t38) (fun t39 w =>
  gd t37 false (boI .eql t39 (.int .i64 0)) (fun t40 w =>
  gd t32 true (pk t37 (.bool true) t40) (fun t41 w =>
  pk t32 t41 (.bool false) (fun t42 w =>
  ifb t42
  (fd 2 t5 (fun t43 w =>
  ld1 t43 (fun t44 w =>
  lnS t44 (fun t45 w =>
  fd 0 t5 (fun t46 w =>
  ld1 t46 (fun t47 w =>
  boI .eql t47 (.int .i64 1) (fun t48 w =>
  ifb t48
  (fd 3 t5 (fun t49 w =>
  ld1 t49 (fun t50 w =>
  cl Try.prog 28 #[t50] (fun t51 w =>
  fd 1 t5 (fun t52 w =>
  ld1 t52 (fun t53 w =>
  boI .lss t53 (.int .i64 0) (fun t54 w =>
  gd t54 false (fd 1 t5) (fun t56 w =>
  gd t54 false (ld1 t56) (fun t57 w =>
  gd t54 false (boI .geq t57 (.int .i64 12)) (fun t58 w =>
  pk t54 (.bool true) t58 (fun t59 w =>
  gd t59 true (fun K w => K t28 w) (fun t62 w =>
  gd t59 true (boI .neq t62 (.int .i64 1)) (fun t63 w =>
  pk t59 t63 (.bool false) (fun t64 w =>
  ifb t64
  (K (.bool false) w)
  (un .not t59 (fun t66 w =>
  gd t66 true (fun K w => K t51 w) (fun t68 w =>
  gd t66 true (boI .neq t68 (.int .i64 16)) (fun t69 w =>
  pk t66 t69 (.bool false) (fun t70 w =>
  gd t70 true (fun K w => K t28 w) (fun t72 w =>
  gd t70 true (boI .neq t72 (.int .i64 2)) (fun t73 w =>
  pk t70 t73 (.bool false) (fun t74 w =>
  ifb t74
  (K (.bool false) w)
  (s6_p6 K B1 t3 t5 t6 t28 t29 t16 t17 t18 w)) w) w) w) w) w) w) w)) w) w) w) w) w) w) w) w) w) w) w) w) w)
  (fd 1 t5 (fun t52_2 w =>
  ld1 t52_2 (fun t53_2 w =>
  boI .lss t53_2 (.int .i64 0) (fun t54_2 w =>
  gd t54_2 false (fd 1 t5) (fun t56_2 w =>
  gd t54_2 false (ld1 t56_2) (fun t57_2 w =>
  gd t54_2 false (boI .geq t57_2 (.int .i64 12)) (fun t58_2 w =>
  pk t54_2 (.bool true) t58_2 (fun t59_2 w =>
  gd t59_2 true (fun K w => K t28 w) (fun t62_2 w =>
  gd t59_2 true (boI .neq t62_2 (.int .i64 1)) (fun t63_2 w =>
  pk t59_2 t63_2 (.bool false) (fun t64_2 w =>
  ifb t64_2
  (K (.bool false) w)
  (un .not t59_2 (fun t66_2 w =>
  gd t66_2 true (fun K w => K t45 w) (fun t68_2 w =>
  gd t66_2 true (boI .neq t68_2 (.int .i64 16)) (fun t69_2 w =>
  pk t66_2 t69_2 (.bool false) (fun t70_2 w =>
  gd t70_2 true (fun K w => K t28 w) (fun t72_2 w =>
  gd t70_2 true (boI .neq t72_2 (.int .i64 2)) (fun t73_2 w =>
  pk t70_2 t73_2 (.bool false) (fun t74_2 w =>
  ifb t74_2
  (K (.bool false) w)
  (s6_p6 K B1 t3 t5 t6 t28 t29 t16 t17 t18 w)) w) w) w) w) w) w) w)) w) w) w) w) w) w) w) w) w) w)) w) w) w) w) w) w)
  (s6_p6 K B1 t3 t5 t6 t28 t29 t16 t17 t18 w)) w) w) w) w) w) w) w) w) w) w) w) w) w) w) w) w) w) w) w) w) w) w) w
def s6_p7_den (K : Value → World → Prop) (M1 : (Nat → Value) → World → Prop) : (Nat → Value) → World → Prop := denL Try.prog [(cd (Try.f6.body.getD .skip) [1, 1, 1, 0, 1, 0, 0, 1, 1, 0, 0, 0]), (cd (Try.f6.body.getD .skip) [1, 1, 1, 0, 1, 0, 0, 1, 1, 0, 0, 1, 0]), (cd (Try.f6.body.getD .skip) [1, 1, 1, 0, 1, 0, 0, 1, 1, 0, 0, 1, 1, 0]), (cd (Try.f6.body.getD .skip) [1, 1, 1, 0, 1, 0, 0, 1, 1, 0, 0, 1, 1, 1, 0, 0]), (cd (Try.f6.body.getD .skip) [1, 1, 1, 0, 1, 0, 0, 1, 1, 0, 0, 1, 1, 1, 0, 1])] (s6_p6_den K M1) (fun i => (bif Nat.beq i 1 then (s6_p2_den K M1) else (bif Nat.beq i 0 then (s6_p1_den K) else (fun _ _ => False)))) (s6_R K)
theorem s6_p7_ok (K : Value → World → Prop) (B1 : List Value → World → Prop) (s : Nat → Value) (w : World) (h : s6_p7 K B1 (s 3) (s 16) (s 17) (s 18) w) : Tr (s6_p7_den K (fun s w => B1 [s 3, s 16, s 17, s 18] w) s w) :=
  tr_simple (P := Try.prog) (codes := [(cd (Try.f6.body.getD .skip) [1, 1, 1, 0, 1, 0, 0, 1, 1, 0, 0, 0]), (cd (Try.f6.body.getD .skip) [1, 1, 1, 0, 1, 0, 0, 1, 1, 0, 0, 1, 0]), (cd (Try.f6.body.getD .skip) [1, 1, 1, 0, 1, 0, 0, 1, 1, 0, 0, 1, 1, 0]), (cd (Try.f6.body.getD .skip) [1, 1, 1, 0, 1, 0, 0, 1, 1, 0, 0, 1, 1, 1, 0, 0]), (cd (Try.f6.body.getD .skip) [1, 1, 1, 0, 1, 0, 0, 1, 1, 0, 0, 1, 1, 1, 0, 1])]) (N := (fun s w => s6_p6 K B1 (s 3) (s 5) (s 6) (s 7) (s 8) (s 16) (s 17) (s 18) w)) (N' := (s6_p6_den K (fun s w => B1 [s 3, s 16, s 17, s 18] w))) (X := (fun i => (bif Nat.beq i 1 then (fun s w => s6_p2 K B1 (s 3) (s 16) (s 17) (s 18) w) else (bif Nat.beq i 0 then (fun s w => s6_p1 K w) else (fun _ _ => False))))) (X' := (fun i => (bif Nat.beq i 1 then (s6_p2_den K (fun s w => B1 [s 3, s 16, s 17, s 18] w)) else (bif Nat.beq i 0 then (s6_p1_den K) else (fun _ _ => False))))) (R := s6_R K) (s := s) (w := w) (p := s6_p7 K B1 (s 3) (s 16) (s 17) (s 18) w) (q := s6_p7_den K (fun s w => B1 [s 3, s 16, s 17, s 18] w) s w) (fun s w h => s6_p6_ok K B1 s w @h) (fun i => (tr_bif (fun s w h => s6_p2_ok K B1 s w @h) (tr_bif (fun s w h => s6_p1_ok K s w @h) tr_id))) (by kernel_rfl) (by kernel_rfl) @h
def s6_p8 (K : Value → World → Prop) (B1 : List Value → World → Prop) (t3 t16 t17 t18 : Value) (w : World) : Prop :=
  boI .lss t18 t17 (fun t19 w =>
  ifb t19
  (s6_p7 K B1 t3 t16 t17 t18 w)
  (s6_p1 K w)) w
def s6_p8_den (K : Value → World → Prop) (M1 : (Nat → Value) → World → Prop) : (Nat → Value) → World → Prop := denL Try.prog [(cd (Try.f6.body.getD .skip) [1, 1, 1, 0, 1, 0, 0, 0]), (cd (Try.f6.body.getD .skip) [1, 1, 1, 0, 1, 0, 0, 1, 0])] (s6_p7_den K M1) (fun i => (bif Nat.beq i 0 then (s6_p1_den K) else (fun _ _ => False))) (s6_R K)
theorem s6_p8_ok (K : Value → World → Prop) (B1 : List Value → World → Prop) (s : Nat → Value) (w : World) (h : s6_p8 K B1 (s 3) (s 16) (s 17) (s 18) w) : Tr (s6_p8_den K (fun s w => B1 [s 3, s 16, s 17, s 18] w) s w) :=
  tr_simple (P := Try.prog) (codes := [(cd (Try.f6.body.getD .skip) [1, 1, 1, 0, 1, 0, 0, 0]), (cd (Try.f6.body.getD .skip) [1, 1, 1, 0, 1, 0, 0, 1, 0])]) (N := (fun s w => s6_p7 K B1 (s 3) (s 16) (s 17) (s 18) w)) (N' := (s6_p7_den K (fun s w => B1 [s 3, s 16, s 17, s 18] w))) (X := (fun i => (bif Nat.beq i 0 then (fun s w => s6_p1 K w) else (fun _ _ => False)))) (X' := (fun i => (bif Nat.beq i 0 then (s6_p1_den K) else (fun _ _ => False)))) (R := s6_R K) (s := s) (w := w) (p := s6_p8 K B1 (s 3) (s 16) (s 17) (s 18) w) (q := s6_p8_den K (fun s w => B1 [s 3, s 16, s 17, s 18] w) s w) (fun s w h => s6_p7_ok K B1 s w @h) (fun i => (tr_bif (fun s w h => s6_p1_ok K s w @h) tr_id)) (by kernel_rfl) (by kernel_rfl) @h
def s6_p9_F (K : Value → World → Prop) (B1 : List Value → World → Prop) (l : List Value) (w : World) : Prop :=
  match l with
  | [t3, t16, t17, t18] => s6_p8 K B1 t3 t16 t17 t18 w
  | _ => False
theorem s6_p9_Fe {K : Value → World → Prop} {B1 : List Value → World → Prop} {t3 t16 t17 t18 : Value} {w : World} : s6_p9_F K B1 [t3, t16, t17, t18] w = s6_p8 K B1 t3 t16 t17 t18 w := by kernel_rfl
def s6_p9 (K : Value → World → Prop) (t3 t16 t17 t18 : Value) (w : World) : Prop :=
  LoopL (s6_p9_F K) [t3, t16, t17, t18] w
def s6_p9_den (K : Value → World → Prop) : (Nat → Value) → World → Prop := fun s w => LoopP (fun M1 s w => s6_p8_den K M1 s w) s w
theorem s6_p9_ok (K : Value → World → Prop) (s : Nat → Value) (w : World) (h : s6_p9 K (s 3) (s 16) (s 17) (s 18) w) : Tr (s6_p9_den K s w) :=
  tr_loop (G := fun N' s w => s6_p8_den K N' s w) (F := s6_p9_F K) (sel := fun s => [s 3, s 16, s 17, s 18]) (s := s) (w := w) (p := s6_p9 K (s 3) (s 16) (s 17) (s 18) w) (q := s6_p9_den K s w) (fun B s w h => s6_p8_ok K B s w @h) (by kernel_rfl) (by kernel_rfl) @h
def s6_p10 (K : Value → World → Prop) (t0 : Value) (w : World) : Prop :=
  cl Try.prog 11 #[t0] (fun t13 w =>
  un .not t13 (fun t14 w =>
  ifb t14
  (K (.bool true) w)
  (cl Try.prog 12 #[] (fun t15 w =>
  lnS t0 (fun t17 w =>
  s6_p9 K t15 t0 t17 (.int .i64 0) w) w) w)) w) w
def s6_p10_den (K : Value → World → Prop) : (Nat → Value) → World → Prop := denL Try.prog [(cd (Try.f6.body.getD .skip) [0]), (cd (Try.f6.body.getD .skip) [1, 0, 0]), (cd (Try.f6.body.getD .skip) [1, 0, 1]), (cd (Try.f6.body.getD .skip) [1, 1, 0]), (cd (Try.f6.body.getD .skip) [1, 1, 1, 0, 0])] (s6_p9_den K) (fun i => (fun _ _ => False)) (s6_R K)
theorem s6_p10_ok (K : Value → World → Prop) (s : Nat → Value) (w : World) (h : s6_p10 K (s 0) w) : Tr (s6_p10_den K s w) :=
  tr_simple (P := Try.prog) (codes := [(cd (Try.f6.body.getD .skip) [0]), (cd (Try.f6.body.getD .skip) [1, 0, 0]), (cd (Try.f6.body.getD .skip) [1, 0, 1]), (cd (Try.f6.body.getD .skip) [1, 1, 0]), (cd (Try.f6.body.getD .skip) [1, 1, 1, 0, 0])]) (N := (fun s w => s6_p9 K (s 3) (s 16) (s 17) (s 18) w)) (N' := (s6_p9_den K)) (X := (fun i => (fun _ _ => False))) (X' := (fun i => (fun _ _ => False))) (R := s6_R K) (s := s) (w := w) (p := s6_p10 K (s 0) w) (q := s6_p10_den K s w) (fun s w h => s6_p9_ok K s w @h) (fun i => tr_id) (by kernel_rfl) (by kernel_rfl) @h
/-- the call, from the text -/
theorem c6 (t0 : Value) {K : Value → World → Prop} {w : World} (h : s6_p10 K t0 w) : cl Try.prog 6 #[t0] K w :=
  calls_of_tr (c := (Try.f6.body.getD .skip)) (fn := Try.f6) (q := s6_p10_den K (st0 #[t0]) w) Try.func6 (by kernel_rfl) (by kernel_rfl) (Nat.le_of_ble_eq_true (by kernel_rfl)) (by kernel_rfl) (by kernel_rfl) (s6_p10_ok K (st0 #[t0]) w @h)

/-! ### function 7 : e2e.disklaw.ArmedCrashEqualsCrash -/
def s7_R (K : Value → World → Prop) (s : Nat → Value) (w : World) : Prop := retv Try.prog s Try.f7.results.toList (fun vs => K (pack vs) w) w
def s7_p1 (K : Value → World → Prop) (w : World) : Prop :=
  K (.bool true) w
def s7_p1_den (K : Value → World → Prop) : (Nat → Value) → World → Prop := denL Try.prog [(cd (Try.f7.body.getD .skip) [1, 1, 1, 1, 1, 0]), (cd (Try.f7.body.getD .skip) [1, 1, 1, 1, 1, 1])] (fun _ _ => False) (fun i => (fun _ _ => False)) (s7_R K)
theorem s7_p1_ok (K : Value → World → Prop) (s : Nat → Value) (w : World) (h : s7_p1 K w) : Tr (s7_p1_den K s w) :=
  tr_simple (P := Try.prog) (codes := [(cd (Try.f7.body.getD .skip) [1, 1, 1, 1, 1, 0]), (cd (Try.f7.body.getD .skip) [1, 1, 1, 1, 1, 1])]) (N := (fun _ _ => False)) (N' := (fun _ _ => False)) (X := (fun i => (fun _ _ => False))) (X' := (fun i => (fun _ _ => False))) (R := s7_R K) (s := s) (w := w) (p := s7_p1 K w) (q := s7_p1_den K s w) tr_id (fun i => tr_id) (by kernel_rfl) (by kernel_rfl) @h
def s7_p2 (K : Value → World → Prop) (B1 : List Value → World → Prop) (t3 t4 t5 t6 t21 t22 t23 : Value) (w : World) : Prop :=
  boI .add t23 (.int .i64 1) (fun t132 w =>
  B1 [t3, t4, t5, t6, t21, t22, t132] w) w
def s7_p2_den (K : Value → World → Prop) (M1 : (Nat → Value) → World → Prop) : (Nat → Value) → World → Prop := denL Try.prog [(cd (Try.f7.body.getD .skip) [1, 1, 1, 1, 0, 1, 0, 0, 1, 1, 1])] M1 (fun i => (bif Nat.beq i 0 then (s7_p1_den K) else (fun _ _ => False))) (s7_R K)
theorem s7_p2_ok (K : Value → World → Prop) (B1 : List Value → World → Prop) (s : Nat → Value) (w : World) (h : s7_p2 K B1 (s 3) (s 4) (s 5) (s 6) (s 21) (s 22) (s 23) w) : Tr (s7_p2_den K (fun s w => B1 [s 3, s 4, s 5, s 6, s 21, s 22, s 23] w) s w) :=
  tr_simple (P := Try.prog) (codes := [(cd (Try.f7.body.getD .skip) [1, 1, 1, 1, 0, 1, 0, 0, 1, 1, 1])]) (N := (fun s w => B1 [s 3, s 4, s 5, s 6, s 21, s 22, s 23] w)) (N' := (fun s w => B1 [s 3, s 4, s 5, s 6, s 21, s 22, s 23] w)) (X := (fun i => (bif Nat.beq i 0 then (fun s w => s7_p1 K w) else (fun _ _ => False)))) (X' := (fun i => (bif Nat.beq i 0 then (s7_p1_den K) else (fun _ _ => False)))) (R := s7_R K) (s := s) (w := w) (p := s7_p2 K B1 (s 3) (s 4) (s 5) (s 6) (s 21) (s 22) (s 23) w) (q := s7_p2_den K (fun s w => B1 [s 3, s 4, s 5, s 6, s 21, s 22, s 23] w) s w) tr_id (fun i => (tr_bif (fun s w h => s7_p1_ok K s w @h) tr_id)) (by kernel_rfl) (by kernel_rfl) @h
def s7_p3 (K : Value → World → Prop) (B1 : List Value → World → Prop) (t3 t4 t5 t6 t21 t22 t23 : Value) (w : World) : Prop :=
  cl Try.prog 18 #[t3] (fun t127 w =>
  cl Try.prog 18 #[t4] (fun t129 w =>
  cl Try.prog 33 #[t127, t129] (fun t130 w =>
  un .not t130 (fun t131 w =>
  ifb t131
  (K (.bool false) w)
  (s7_p2 K B1 t3 t4 t5 t6 t21 t22 t23 w)) w) w) w) w
def s7_p3_den (K : Value → World → Prop) (M1 : (Nat → Value) → World → Prop) : (Nat → Value) → World → Prop := denL Try.prog [(cd (Try.f7.body.getD .skip) [1, 1, 1, 1, 0, 1, 0, 0, 1, 1, 0, 0, 1, 1, 1, 0]), (cd (Try.f7.body.getD .skip) [1, 1, 1, 1, 0, 1, 0, 0, 1, 1, 0, 0, 1, 1, 1, 1])] (s7_p2_den K M1) (fun i => (bif Nat.beq i 1 then (s7_p2_den K M1) else (bif Nat.beq i 0 then (s7_p1_den K) else (fun _ _ => False)))) (s7_R K)
theorem s7_p3_ok (K : Value → World → Prop) (B1 : List Value → World → Prop) (s : Nat → Value) (w : World) (h : s7_p3 K B1 (s 3) (s 4) (s 5) (s 6) (s 21) (s 22) (s 23) w) : Tr (s7_p3_den K (fun s w => B1 [s 3, s 4, s 5, s 6, s 21, s 22, s 23] w) s w) :=
  tr_simple (P := Try.prog) (codes := [(cd (Try.f7.body.getD .skip) [1, 1, 1, 1, 0, 1, 0, 0, 1, 1, 0, 0, 1, 1, 1, 0]), (cd (Try.f7.body.getD .skip) [1, 1, 1, 1, 0, 1, 0, 0, 1, 1, 0, 0, 1, 1, 1, 1])]) (N := (fun s w => s7_p2 K B1 (s 3) (s 4) (s 5) (s 6) (s 21) (s 22) (s 23) w)) (N' := (s7_p2_den K (fun s w => B1 [s 3, s 4, s 5, s 6, s 21, s 22, s 23] w))) (X := (fun i => (bif Nat.beq i 1 then (fun s w => s7_p2 K B1 (s 3) (s 4) (s 5) (s 6) (s 21) (s 22) (s 23) w) else (bif Nat.beq i 0 then (fun s w => s7_p1 K w) else (fun _ _ => False))))) (X' := (fun i => (bif Nat.beq i 1 then (s7_p2_den K (fun s w => B1 [s 3, s 4, s 5, s 6, s 21, s 22, s 23] w)) else (bif Nat.beq i 0 then (s7_p1_den K) else (fun _ _ => False))))) (R := s7_R K) (s := s) (w := w) (p := s7_p3 K B1 (s 3) (s 4) (s 5) (s 6) (s 21) (s 22) (s 23) w) (q := s7_p3_den K (fun s w => B1 [s 3, s 4, s 5, s 6, s 21, s 22, s 23] w) s w) (fun s w h => s7_p2_ok K B1 s w @h) (fun i => (tr_bif (fun s w h => s7_p2_ok K B1 s w @h) (tr_bif (fun s w h => s7_p1_ok K s w @h) tr_id))) (by kernel_rfl) (by kernel_rfl) @h
def s7_p4_d (K : Value → World → Prop) (B1 : List Value → World → Prop) (t3 t4 t6 t8 t21 t22 t23 : Value) (w0 w : World) : Prop :=
  fd 4 t8 (fun t61 _ =>
  ld1 t61 (fun t62 _ =>
  fd 5 t8 (fun t63 _ =>
  ldn 3 t63 (fun t64 _ =>
  stn 3 t6 t64 (fun w =>
  s7_p3 K B1 t3 t4 t62 t6 t21 t22 t23 w) w) w0) w0) w0) w0
def s7_p4 (K : Value → World → Prop) (B1 : List Value → World → Prop) (t3 t4 t6 t8 t21 t22 t23 : Value) (w : World) : Prop := s7_p4_d K B1 t3 t4 t6 t8 t21 t22 t23 (drw w) (drw w)
def s7_p4_den (K : Value → World → Prop) (M1 : (Nat → Value) → World → Prop) : (Nat → Value) → World → Prop := denL Try.prog [(cd (Try.f7.body.getD .skip) [1, 1, 1, 1, 0, 1, 0, 0, 1, 1, 0, 0, 1, 1, 0, 1, 0, 1, 0, 1, 0])] (s7_p3_den K M1) (fun i => (bif Nat.beq i 2 then (s7_p3_den K M1) else (bif Nat.beq i 1 then (s7_p2_den K M1) else (bif Nat.beq i 0 then (s7_p1_den K) else (fun _ _ => False))))) (s7_R K)
theorem s7_p4_ok (K : Value → World → Prop) (B1 : List Value → World → Prop) (s : Nat → Value) (w : World) (h : s7_p4 K B1 (s 3) (s 4) (s 6) (s 8) (s 21) (s 22) (s 23) w) : Tr (s7_p4_den K (fun s w => B1 [s 3, s 4, s 5, s 6, s 21, s 22, s 23] w) s w) :=
  tr_draw (P := Try.prog) (ops := (ro (cd (Try.f7.body.getD .skip) [1, 1, 1, 1, 0, 1, 0, 0, 1, 1, 0, 0, 1, 1, 0, 1, 0, 1, 0, 1, 0]))) (ms := [0, 1, 0, 4, 3, 31]) (cs := [0, 1, 2, 3, 4]) (N := (fun s w => s7_p3 K B1 (s 3) (s 4) (s 5) (s 6) (s 21) (s 22) (s 23) w)) (N' := (s7_p3_den K (fun s w => B1 [s 3, s 4, s 5, s 6, s 21, s 22, s 23] w))) (s := s) (w := w) (p := s7_p4 K B1 (s 3) (s 4) (s 6) (s 8) (s 21) (s 22) (s 23) w) (q := s7_p4_den K (fun s w => B1 [s 3, s 4, s 5, s 6, s 21, s 22, s 23] w) s w) (by kernel_rfl) (by kernel_rfl) (fun s w h => s7_p3_ok K B1 s w @h) (by kernel_rfl) (by kernel_rfl) @h
def s7_p5 (K : Value → World → Prop) (B1 : List Value → World → Prop) (t3 t4 t5 t6 t8 t21 t22 t23 t60 : Value) (w : World) : Prop :=
  ifb t60
  (s7_p4 K B1 t3 t4 t6 t8 t21 t22 t23 w)
  (s7_p3 K B1 t3 t4 t5 t6 t21 t22 t23 w)
def s7_p5_den (K : Value → World → Prop) (M1 : (Nat → Value) → World → Prop) : (Nat → Value) → World → Prop := fun s w => ifb (ev s (.tmp 60)) ((s7_p4_den K M1) s w) ((s7_p3_den K M1) s w)
theorem s7_p5_ok (K : Value → World → Prop) (B1 : List Value → World → Prop) (s : Nat → Value) (w : World) (h : s7_p5 K B1 (s 3) (s 4) (s 5) (s 6) (s 8) (s 21) (s 22) (s 23) (s 60) w) : Tr (s7_p5_den K (fun s w => B1 [s 3, s 4, s 5, s 6, s 21, s 22, s 23] w) s w) :=
  tr_cond (v := ev s (.tmp 60)) (a := (fun s w => s7_p4 K B1 (s 3) (s 4) (s 6) (s 8) (s 21) (s 22) (s 23) w) s w) (a' := (s7_p4_den K (fun s w => B1 [s 3, s 4, s 5, s 6, s 21, s 22, s 23] w)) s w) (b := (fun s w => s7_p3 K B1 (s 3) (s 4) (s 5) (s 6) (s 21) (s 22) (s 23) w) s w) (b' := (s7_p3_den K (fun s w => B1 [s 3, s 4, s 5, s 6, s 21, s 22, s 23] w)) s w) (p := s7_p5 K B1 (s 3) (s 4) (s 5) (s 6) (s 8) (s 21) (s 22) (s 23) (s 60) w) (q := s7_p5_den K (fun s w => B1 [s 3, s 4, s 5, s 6, s 21, s 22, s 23] w) s w) ((fun s w h => s7_p4_ok K B1 s w @h) s w) ((fun s w h => s7_p3_ok K B1 s w @h) s w) (by kernel_rfl) (by kernel_rfl) @h
def s7_p6 (K : Value → World → Prop) (B1 : List Value → World → Prop) (t3 t4 t5 t6 t8 t9 t21 t22 t23 : Value) (w : World) : Prop :=
  boI .eql t9 (.int .i64 0) (fun t60 w =>
  s7_p5 K B1 t3 t4 t5 t6 t8 t21 t22 t23 t60 w) w
def s7_p6_den (K : Value → World → Prop) (M1 : (Nat → Value) → World → Prop) : (Nat → Value) → World → Prop := denL Try.prog [(cd (Try.f7.body.getD .skip) [1, 1, 1, 1, 0, 1, 0, 0, 1, 1, 0, 0, 1, 1, 0, 1, 0, 1, 0, 0])] (s7_p5_den K M1) (fun i => (bif Nat.beq i 2 then (s7_p3_den K M1) else (bif Nat.beq i 1 then (s7_p2_den K M1) else (bif Nat.beq i 0 then (s7_p1_den K) else (fun _ _ => False))))) (s7_R K)
theorem s7_p6_ok (K : Value → World → Prop) (B1 : List Value → World → Prop) (s : Nat → Value) (w : World) (h : s7_p6 K B1 (s 3) (s 4) (s 5) (s 6) (s 8) (s 9) (s 21) (s 22) (s 23) w) : Tr (s7_p6_den K (fun s w => B1 [s 3, s 4, s 5, s 6, s 21, s 22, s 23] w) s w) :=
  tr_simple (P := Try.prog) (codes := [(cd (Try.f7.body.getD .skip) [1, 1, 1, 1, 0, 1, 0, 0, 1, 1, 0, 0, 1, 1, 0, 1, 0, 1, 0, 0])]) (N := (fun s w => s7_p5 K B1 (s 3) (s 4) (s 5) (s 6) (s 8) (s 21) (s 22) (s 23) (s 60) w)) (N' := (s7_p5_den K (fun s w => B1 [s 3, s 4, s 5, s 6, s 21, s 22, s 23] w))) (X := (fun i => (bif Nat.beq i 2 then (fun s w => s7_p3 K B1 (s 3) (s 4) (s 5) (s 6) (s 21) (s 22) (s 23) w) else (bif Nat.beq i 1 then (fun s w => s7_p2 K B1 (s 3) (s 4) (s 5) (s 6) (s 21) (s 22) (s 23) w) else (bif Nat.beq i 0 then (fun s w => s7_p1 K w) else (fun _ _ => False)))))) (X' := (fun i => (bif Nat.beq i 2 then (s7_p3_den K (fun s w => B1 [s 3, s 4, s 5, s 6, s 21, s 22, s 23] w)) else (bif Nat.beq i 1 then (s7_p2_den K (fun s w => B1 [s 3, s 4, s 5, s 6, s 21, s 22, s 23] w)) else (bif Nat.beq i 0 then (s7_p1_den K) else (fun _ _ => False)))))) (R := s7_R K) (s := s) (w := w) (p := s7_p6 K B1 (s 3) (s 4) (s 5) (s 6) (s 8) (s 9) (s 21) (s 22) (s 23) w) (q := s7_p6_den K (fun s w => B1 [s 3, s 4, s 5, s 6, s 21, s 22, s 23] w) s w) (fun s w h => s7_p5_ok K B1 s w @h) (fun i => (tr_bif (fun s w h => s7_p3_ok K B1 s w @h) (tr_bif (fun s w h => s7_p2_ok K B1 s w @h) (tr_bif (fun s w h => s7_p1_ok K s w @h) tr_id)))) (by kernel_rfl) (by kernel_rfl) @h
def s7_p7 (K : Value → World → Prop) (B1 : List Value → World → Prop) (t3 t4 t5 t6 t8 t9 t10 t21 t22 t23 t34 : Value) (w : World) : Prop :=
  boI .eql t34 (.int .i64 6) (fun t66 w =>
  ifb t66
  (boI .eql t9 (.int .i64 0) (fun t68 w =>
  ifb t68
  (s7_p3 K B1 t3 t4 (.int .i64 0) t6 t21 t22 t23 w)
  (s7_p3 K B1 t3 t4 t5 t6 t21 t22 t23 w)) w)
  (boI .eql t34 (.int .i64 2) (fun t70 w =>
  ifb t70
  (boI .eql t5 (.int .i64 1) (fun t72 w =>
  gd t72 true (fun K w => K t4 w) (fun t74 w =>
  gd t72 true (cl Try.prog 20 #[t74]) (fun t75 w =>
  gd t72 true (un .not t75) (fun t76 w =>
  pk t72 t76 (.bool false) (fun t77 w =>
  ifb t77
  (boI .neq t9 (.int .i64 4) (fun t79 w =>
  ifb t79
  (K (.bool false) w)
  (ldn 3 t6 (fun t81 w =>
  cl Try.prog 30 #[t4, t81] (fun t82 w =>
  s7_p3 K B1 t3 t4 (.int .i64 0) t6 t21 t22 t23 w) w) w)) w)
  (cl Try.prog 32 #[t4] (fun t84 w =>
  cl Try.prog 31 #[t84] (fun t85 w =>
  boI .neq t85 t9 (fun t87 w =>
  ifb t87
  (K (.bool false) w)
  (boI .eql t9 (.int .i64 0) (fun t89 w =>
  gd t89 true (fun K w => K t5 w) (fun t91 w =>
  gd t89 true (boI .gtr t91 (.int .i64 0)) (fun t92 w =>
  pk t89 t92 (.bool false) (fun t93 w =>
  ifb t93
  (boI .sub t5 (.int .i64 1) (fun t95 w =>
  s7_p3 K B1 t3 t4 t95 t6 t21 t22 t23 w) w)
  (s7_p3 K B1 t3 t4 t5 t6 t21 t22 t23 w)) w) w) w) w)) w) w) w)) w) w) w) w) w)
  (boI .eql t34 (.int .i64 0) (fun t97 w =>
  ifb t97
  (ldn 8 t8 (fun t100 w =>
  cl Try.prog 14 #[t4, t100] (fun t101 w =>
  exq t101 0 (fun t102 w =>
  exq t101 1 (fun t103 w =>
  boI .eql t102 (.int .i64 0) (fun t105 w =>
  gd t105 true (fun K w => K t5 w) (fun t107 w =>
  gd t105 true (boI .eql t107 (.int .i64 1)) (fun t108 w =>
  pk t105 t108 (.bool false) (fun t109 w =>
  ifb t109
  (boI .neq t9 (.int .i64 4) (fun t111 w =>
  ifb t111
  (K (.bool false) w)
  (ldn 3 t6 (fun t113 w =>
  cl Try.prog 30 #[t4, t113] (fun t114 w =>
  s7_p3 K B1 t3 t4 (.int .i64 0) t6 t21 t22 t23 w) w) w)) w)
  (boI .neq t102 t9 (fun t117 w =>
  ifb t117
  (K (.bool false) w)
  (boI .eql t9 (.int .i64 0) (fun t119 w =>
  gd t119 true (fun K w => K t5 w) (fun t121 w =>
  gd t119 true (boI .gtr t121 (.int .i64 0)) (fun t122 w =>
  pk t119 t122 (.bool false) (fun t123 w =>
  ifb t123
  (boI .sub t5 (.int .i64 1) (fun t125 w =>
  s7_p3 K B1 t3 t4 t125 t6 t21 t22 t23 w) w)
  (s7_p3 K B1 t3 t4 t5 t6 t21 t22 t23 w)) w) w) w) w)) w)) w) w) w) w) w) w) w) w)
  (ldn 8 t8 (fun t37 w =>
  cl Try.prog 14 #[t4, t37] (fun t38 w =>
  exq t38 0 (fun t39 w =>
  exq t38 1 (fun t40 w =>
  boI .neq t39 t9 (fun t43 w =>
  gd t43 false (fun K w => K t40 w) (fun t45 w =>
  gd t43 false (fun K w => K t10 w) (fun t46 w =>
  gd t43 false (cl Try.prog 16 #[t45, t46]) (fun t47 w =>
  gd t43 false (un .not t47) (fun t48 w =>
  pk t43 (.bool true) t48 (fun t49 w =>
  ifb t49
  (K (.bool false) w)
  (fd 0 t8 (fun t50 w =>
  ld1 t50 (fun t51 w =>
  boI .eql t51 (.int .i64 3) (fun t52 w =>
  gd t52 true (fun K w => K t9 w) (fun t54 w =>
  gd t52 true (boI .eql t54 (.int .i64 0)) (fun t55 w =>
  pk t52 t55 (.bool false) (fun t56 w =>
  ifb t56
  (s7_p3 K B1 t3 t4 (.int .i64 0) t6 t21 t22 t23 w)
  (s7_p3 K B1 t3 t4 t5 t6 t21 t22 t23 w)) w) w) w) w) w) w)) w) w) w) w) w) w) w) w) w) w)) w)) w)) w
def s7_p7_den (K : Value → World → Prop) (M1 : (Nat → Value) → World → Prop) : (Nat → Value) → World → Prop := denL Try.prog [(cd (Try.f7.body.getD .skip) [1, 1, 1, 1, 0, 1, 0, 0, 1, 1, 0, 0, 1, 1, 0, 1, 0, 1, 1, 0]), (cd (Try.f7.body.getD .skip) [1, 1, 1, 1, 0, 1, 0, 0, 1, 1, 0, 0, 1, 1, 0, 1, 0, 1, 1, 1])] (s7_p3_den K M1) (fun i => (bif Nat.beq i 2 then (s7_p3_den K M1) else (bif Nat.beq i 1 then (s7_p2_den K M1) else (bif Nat.beq i 0 then (s7_p1_den K) else (fun _ _ => False))))) (s7_R K)
theorem s7_p7_ok (K : Value → World → Prop) (B1 : List Value → World → Prop) (s : Nat → Value) (w : World) (h : s7_p7 K B1 (s 3) (s 4) (s 5) (s 6) (s 8) (s 9) (s 10) (s 21) (s 22) (s 23) (s 34) w) : Tr (s7_p7_den K (fun s w => B1 [s 3, s 4, s 5, s 6, s 21, s 22, s 23] w) s w) :=
  tr_simple (P := Try.prog) (codes := [(cd (Try.f7.body.getD .skip) [1, 1, 1, 1, 0, 1, 0, 0, 1, 1, 0, 0, 1, 1, 0, 1, 0, 1, 1, 0]), (cd (Try.f7.body.getD .skip) [1, 1, 1, 1, 0, 1, 0, 0, 1, 1, 0, 0, 1, 1, 0, 1, 0, 1, 1, 1])]) (N := (fun s w => s7_p3 K B1 (s 3) (s 4) (s 5) (s 6) (s 21) (s 22) (s 23) w)) (N' := (s7_p3_den K (fun s w => B1 [s 3, s 4, s 5, s 6, s 21, s 22, s 23] w))) (X := (fun i => (bif Nat.beq i 2 then (fun s w => s7_p3 K B1 (s 3) (s 4) (s 5) (s 6) (s 21) (s 22) (s 23) w) else (bif Nat.beq i 1 then (fun s w => s7_p2 K B1 (s 3) (s 4) (s 5) (s 6) (s 21) (s 22) (s 23) w) else (bif Nat.beq i 0 then (fun s w => s7_p1 K w) else (fun _ _ => False)))))) (X' := (fun i => (bif Nat.beq i 2 then (s7_p3_den K (fun s w => B1 [s 3, s 4, s 5, s 6, s 21, s 22, s 23] w)) else (bif Nat.beq i 1 then (s7_p2_den K (fun s w => B1 [s 3, s 4, s 5, s 6, s 21, s 22, s 23] w)) else (bif Nat.beq i 0 then (s7_p1_den K) else (fun _ _ => False)))))) (R := s7_R K) (s := s) (w := w) (p := s7_p7 K B1 (s 3) (s 4) (s 5) (s 6) (s 8) (s 9) (s 10) (s 21) (s 22) (s 23) (s 34) w) (q := s7_p7_den K (fun s w => B1 [s 3, s 4, s 5, s 6, s 21, s 22, s 23] w) s w) (fun s w h => s7_p3_ok K B1 s w @h) (fun i => (tr_bif (fun s w h => s7_p3_ok K B1 s w @h) (tr_bif (fun s w h => s7_p2_ok K B1 s w @h) (tr_bif (fun s w h => s7_p1_ok K s w @h) tr_id)))) (by kernel_rfl) (by kernel_rfl) @h
def s7_p8 (K : Value → World → Prop) (B1 : List Value → World → Prop) (t3 t4 t5 t6 t8 t9 t10 t21 t22 t23 t34 t57 : Value) (w : World) : Prop :=
  ifb t57
  (s7_p6 K B1 t3 t4 t5 t6 t8 t9 t21 t22 t23 w)
  (s7_p7 K B1 t3 t4 t5 t6 t8 t9 t10 t21 t22 t23 t34 w)
def s7_p8_den (K : Value → World → Prop) (M1 : (Nat → Value) → World → Prop) : (Nat → Value) → World → Prop := fun s w => ifb (ev s (.tmp 57)) ((s7_p6_den K M1) s w) ((s7_p7_den K M1) s w)
theorem s7_p8_ok (K : Value → World → Prop) (B1 : List Value → World → Prop) (s : Nat → Value) (w : World) (h : s7_p8 K B1 (s 3) (s 4) (s 5) (s 6) (s 8) (s 9) (s 10) (s 21) (s 22) (s 23) (s 34) (s 57) w) : Tr (s7_p8_den K (fun s w => B1 [s 3, s 4, s 5, s 6, s 21, s 22, s 23] w) s w) :=
  tr_cond (v := ev s (.tmp 57)) (a := (fun s w => s7_p6 K B1 (s 3) (s 4) (s 5) (s 6) (s 8) (s 9) (s 21) (s 22) (s 23) w) s w) (a' := (s7_p6_den K (fun s w => B1 [s 3, s 4, s 5, s 6, s 21, s 22, s 23] w)) s w) (b := (fun s w => s7_p7 K B1 (s 3) (s 4) (s 5) (s 6) (s 8) (s 9) (s 10) (s 21) (s 22) (s 23) (s 34) w) s w) (b' := (s7_p7_den K (fun s w => B1 [s 3, s 4, s 5, s 6, s 21, s 22, s 23] w)) s w) (p := s7_p8 K B1 (s 3) (s 4) (s 5) (s 6) (s 8) (s 9) (s 10) (s 21) (s 22) (s 23) (s 34) (s 57) w) (q := s7_p8_den K (fun s w => B1 [s 3, s 4, s 5, s 6, s 21, s 22, s 23] w) s w) ((fun s w h => s7_p6_ok K B1 s w @h) s w) ((fun s w h => s7_p7_ok K B1 s w @h) s w) (by kernel_rfl) (by kernel_rfl) @h
def s7_p9 (K : Value → World → Prop) (B1 : List Value → World → Prop) (t3 t4 t5 t6 t8 t9 t10 t21 t22 t23 t34 : Value) (w : World) : Prop :=
  boI .eql t34 (.int .i64 5) (fun t58 w =>
  s7_p8 K B1 t3 t4 t5 t6 t8 t9 t10 t21 t22 t23 t34 t58 w) w
def s7_p9_den (K : Value → World → Prop) (M1 : (Nat → Value) → World → Prop) : (Nat → Value) → World → Prop := denL Try.prog [(cd (Try.f7.body.getD .skip) [1, 1, 1, 1, 0, 1, 0, 0, 1, 1, 0, 0, 1, 1, 0, 1, 0, 0])] (s7_p8_den K M1) (fun i => (bif Nat.beq i 2 then (s7_p3_den K M1) else (bif Nat.beq i 1 then (s7_p2_den K M1) else (bif Nat.beq i 0 then (s7_p1_den K) else (fun _ _ => False))))) (s7_R K)
theorem s7_p9_ok (K : Value → World → Prop) (B1 : List Value → World → Prop) (s : Nat → Value) (w : World) (h : s7_p9 K B1 (s 3) (s 4) (s 5) (s 6) (s 8) (s 9) (s 10) (s 21) (s 22) (s 23) (s 34) w) : Tr (s7_p9_den K (fun s w => B1 [s 3, s 4, s 5, s 6, s 21, s 22, s 23] w) s w) :=
  tr_simple (P := Try.prog) (codes := [(cd (Try.f7.body.getD .skip) [1, 1, 1, 1, 0, 1, 0, 0, 1, 1, 0, 0, 1, 1, 0, 1, 0, 0])]) (N := (fun s w => s7_p8 K B1 (s 3) (s 4) (s 5) (s 6) (s 8) (s 9) (s 10) (s 21) (s 22) (s 23) (s 34) (s 57) w)) (N' := (s7_p8_den K (fun s w => B1 [s 3, s 4, s 5, s 6, s 21, s 22, s 23] w))) (X := (fun i => (bif Nat.beq i 2 then (fun s w => s7_p3 K B1 (s 3) (s 4) (s 5) (s 6) (s 21) (s 22) (s 23) w) else (bif Nat.beq i 1 then (fun s w => s7_p2 K B1 (s 3) (s 4) (s 5) (s 6) (s 21) (s 22) (s 23) w) else (bif Nat.beq i 0 then (fun s w => s7_p1 K w) else (fun _ _ => False)))))) (X' := (fun i => (bif Nat.beq i 2 then (s7_p3_den K (fun s w => B1 [s 3, s 4, s 5, s 6, s 21, s 22, s 23] w)) else (bif Nat.beq i 1 then (s7_p2_den K (fun s w => B1 [s 3, s 4, s 5, s 6, s 21, s 22, s 23] w)) else (bif Nat.beq i 0 then (s7_p1_den K) else (fun _ _ => False)))))) (R := s7_R K) (s := s) (w := w) (p := s7_p9 K B1 (s 3) (s 4) (s 5) (s 6) (s 8) (s 9) (s 10) (s 21) (s 22) (s 23) (s 34) w) (q := s7_p9_den K (fun s w => B1 [s 3, s 4, s 5, s 6, s 21, s 22, s 23] w) s w) (fun s w h => s7_p8_ok K B1 s w @h) (fun i => (tr_bif (fun s w h => s7_p3_ok K B1 s w @h) (tr_bif (fun s w h => s7_p2_ok K B1 s w @h) (tr_bif (fun s w h => s7_p1_ok K s w @h) tr_id)))) (by kernel_rfl) (by kernel_rfl) @h
def s7_p10 (K : Value → World → Prop) (B1 : List Value → World → Prop) (t3 t4 t5 t6 t21 t22 t23 : Value) (w : World) : Prop :=
  ixs 8 t21 t23 (fun t25 w =>
  ldn 8 t25 (fun t26 w =>
  nw 34 #[(.int .i64 0), (.int .i64 0), (.slice none 0 0), (.int .i64 0), (.int .i64 0), (.slice none 0 0), (.int .i64 0), (.int .i64 0)] (fun t8 w =>
  stn 8 t8 t26 (fun w =>
  ldn 8 t8 (fun t29 w =>
  cl Try.prog 14 #[t3, t29] (fun t30 w =>
  exq t30 0 (fun t31 w =>
  exq t30 1 (fun t32 w =>
  fd 0 t8 (fun t33 w =>
  ld1 t33 (fun t34 w =>
  s7_p9 K B1 t3 t4 t5 t6 t8 t31 t32 t21 t22 t23 t34 w) w) w) w) w) w) w) w) w) w) w
def s7_p10_den (K : Value → World → Prop) (M1 : (Nat → Value) → World → Prop) : (Nat → Value) → World → Prop := denL Try.prog [(cd (Try.f7.body.getD .skip) [1, 1, 1, 1, 0, 1, 0, 0, 1, 1, 0, 0, 0]), (cd (Try.f7.body.getD .skip) [1, 1, 1, 1, 0, 1, 0, 0, 1, 1, 0, 0, 1, 0]), (cd (Try.f7.body.getD .skip) [1, 1, 1, 1, 0, 1, 0, 0, 1, 1, 0, 0, 1, 1, 0, 0])] (s7_p9_den K M1) (fun i => (bif Nat.beq i 1 then (s7_p2_den K M1) else (bif Nat.beq i 0 then (s7_p1_den K) else (fun _ _ => False)))) (s7_R K)
theorem s7_p10_ok (K : Value → World → Prop) (B1 : List Value → World → Prop) (s : Nat → Value) (w : World) (h : s7_p10 K B1 (s 3) (s 4) (s 5) (s 6) (s 21) (s 22) (s 23) w) : Tr (s7_p10_den K (fun s w => B1 [s 3, s 4, s 5, s 6, s 21, s 22, s 23] w) s w) :=
  tr_simple (P := Try.prog) (codes := [(cd (Try.f7.body.getD .skip) [1, 1, 1, 1, 0, 1, 0, 0, 1, 1, 0, 0, 0]), (cd (Try.f7.body.getD .skip) [1, 1, 1, 1, 0, 1, 0, 0, 1, 1, 0, 0, 1, 0]), (cd (Try.f7.body.getD .skip) [1, 1, 1, 1, 0, 1, 0, 0, 1, 1, 0, 0, 1, 1, 0, 0])]) (N := (fun s w => s7_p9 K B1 (s 3) (s 4) (s 5) (s 6) (s 8) (s 9) (s 10) (s 21) (s 22) (s 23) (s 34) w)) (N' := (s7_p9_den K (fun s w => B1 [s 3, s 4, s 5, s 6, s 21, s 22, s 23] w))) (X := (fun i => (bif Nat.beq i 1 then (fun s w => s7_p2 K B1 (s 3) (s 4) (s 5) (s 6) (s 21) (s 22) (s 23) w) else (bif Nat.beq i 0 then (fun s w => s7_p1 K w) else (fun _ _ => False))))) (X' := (fun i => (bif Nat.beq i 1 then (s7_p2_den K (fun s w => B1 [s 3, s 4, s 5, s 6, s 21, s 22, s 23] w)) else (bif Nat.beq i 0 then (s7_p1_den K) else (fun _ _ => False))))) (R := s7_R K) (s := s) (w := w) (p := s7_p10 K B1 (s 3) (s 4) (s 5) (s 6) (s 21) (s 22) (s 23) w) (q := s7_p10_den K (fun s w => B1 [s 3, s 4, s 5, s 6, s 21, s 22, s 23] w) s w) (fun s w h => s7_p9_ok K B1 s w @h) (fun i => (tr_bif (fun s w h => s7_p2_ok K B1 s w @h) (tr_bif (fun s w h => s7_p1_ok K s w @h) tr_id))) (by kernel_rfl) (by kernel_rfl) @h
def s7_p11 (K : Value → World → Prop) (B1 : List Value → World → Prop) (t3 t4 t5 t6 t21 t22 t23 : Value) (w : World) : Prop :=
  boI .lss t23 t22 (fun t24 w =>
  ifb t24
  (s7_p10 K B1 t3 t4 t5 t6 t21 t22 t23 w)
  (s7_p1 K w)) w
def s7_p11_den (K : Value → World → Prop) (M1 : (Nat → Value) → World → Prop) : (Nat → Value) → World → Prop := denL Try.prog [(cd (Try.f7.body.getD .skip) [1, 1, 1, 1, 0, 1, 0, 0, 0]), (cd (Try.f7.body.getD .skip) [1, 1, 1, 1, 0, 1, 0, 0, 1, 0])] (s7_p10_den K M1) (fun i => (bif Nat.beq i 0 then (s7_p1_den K) else (fun _ _ => False))) (s7_R K)
theorem s7_p11_ok (K : Value → World → Prop) (B1 : List Value → World → Prop) (s : Nat → Value) (w : World) (h : s7_p11 K B1 (s 3) (s 4) (s 5) (s 6) (s 21) (s 22) (s 23) w) : Tr (s7_p11_den K (fun s w => B1 [s 3, s 4, s 5, s 6, s 21, s 22, s 23] w) s w) :=
  tr_simple (P := Try.prog) (codes := [(cd (Try.f7.body.getD .skip) [1, 1, 1, 1, 0, 1, 0, 0, 0]), (cd (Try.f7.body.getD .skip) [1, 1, 1, 1, 0, 1, 0, 0, 1, 0])]) (N := (fun s w => s7_p10 K B1 (s 3) (s 4) (s 5) (s 6) (s 21) (s 22) (s 23) w)) (N' := (s7_p10_den K (fun s w => B1 [s 3, s 4, s 5, s 6, s 21, s 22, s 23] w))) (X := (fun i => (bif Nat.beq i 0 then (fun s w => s7_p1 K w) else (fun _ _ => False)))) (X' := (fun i => (bif Nat.beq i 0 then (s7_p1_den K) else (fun _ _ => False)))) (R := s7_R K) (s := s) (w := w) (p := s7_p11 K B1 (s 3) (s 4) (s 5) (s 6) (s 21) (s 22) (s 23) w) (q := s7_p11_den K (fun s w => B1 [s 3, s 4, s 5, s 6, s 21, s 22, s 23] w) s w) (fun s w h => s7_p10_ok K B1 s w @h) (fun i => (tr_bif (fun s w h => s7_p1_ok K s w @h) tr_id)) (by kernel_rfl) (by kernel_rfl) @h
def s7_p12_F (K : Value → World → Prop) (B1 : List Value → World → Prop) (l : List Value) (w : World) : Prop :=
  match l with
  | [t3, t4, t5, t6, t21, t22, t23] => s7_p11 K B1 t3 t4 t5 t6 t21 t22 t23 w
  | _ => False
theorem s7_p12_Fe {K : Value → World → Prop} {B1 : List Value → World → Prop} {t3 t4 t5 t6 t21 t22 t23 : Value} {w : World} : s7_p12_F K B1 [t3, t4, t5, t6, t21, t22, t23] w = s7_p11 K B1 t3 t4 t5 t6 t21 t22 t23 w := by kernel_rfl
def s7_p12 (K : Value → World → Prop) (t3 t4 t5 t6 t21 t22 t23 : Value) (w : World) : Prop :=
  LoopL (s7_p12_F K) [t3, t4, t5, t6, t21, t22, t23] w
def s7_p12_den (K : Value → World → Prop) : (Nat → Value) → World → Prop := fun s w => LoopP (fun M1 s w => s7_p11_den K M1 s w) s w
theorem s7_p12_ok (K : Value → World → Prop) (s : Nat → Value) (w : World) (h : s7_p12 K (s 3) (s 4) (s 5) (s 6) (s 21) (s 22) (s 23) w) : Tr (s7_p12_den K s w) :=
  tr_loop (G := fun N' s w => s7_p11_den K N' s w) (F := s7_p12_F K) (sel := fun s => [s 3, s 4, s 5, s 6, s 21, s 22, s 23]) (s := s) (w := w) (p := s7_p12 K (s 3) (s 4) (s 5) (s 6) (s 21) (s 22) (s 23) w) (q := s7_p12_den K s w) (fun B s w h => s7_p11_ok K B s w @h) (by kernel_rfl) (by kernel_rfl) @h
def s7_p13 (K : Value → World → Prop) (t0 : Value) (w : World) : Prop :=
  cl Try.prog 11 #[t0] (fun t16 w =>
  un .not t16 (fun t17 w =>
  ifb t17
  (K (.bool true) w)
  (cl Try.prog 12 #[] (fun t18 w =>
  cl Try.prog 12 #[] (fun t19 w =>
  bdq [(.slice none 0 0), (.int .i64 0), (.int .i64 0)] [] (fun t20 w =>
  nw 32 #[(.slice none 0 0), (.int .i64 0), (.int .i64 0)] (fun t6 w =>
  stn 3 t6 t20 (fun w =>
  lnS t0 (fun t22 w =>
  s7_p12 K t18 t19 (.int .i64 0) t6 t0 t22 (.int .i64 0) w) w) w) w) w) w) w)) w) w
def s7_p13_den (K : Value → World → Prop) : (Nat → Value) → World → Prop := denL Try.prog [(cd (Try.f7.body.getD .skip) [0]), (cd (Try.f7.body.getD .skip) [1, 0, 0]), (cd (Try.f7.body.getD .skip) [1, 0, 1]), (cd (Try.f7.body.getD .skip) [1, 1, 0]), (cd (Try.f7.body.getD .skip) [1, 1, 1, 0]), (cd (Try.f7.body.getD .skip) [1, 1, 1, 1, 0, 0])] (s7_p12_den K) (fun i => (fun _ _ => False)) (s7_R K)
theorem s7_p13_ok (K : Value → World → Prop) (s : Nat → Value) (w : World) (h : s7_p13 K (s 0) w) : Tr (s7_p13_den K s w) :=
  tr_simple (P := Try.prog) (codes := [(cd (Try.f7.body.getD .skip) [0]), (cd (Try.f7.body.getD .skip) [1, 0, 0]), (cd (Try.f7.body.getD .skip) [1, 0, 1]), (cd (Try.f7.body.getD .skip) [1, 1, 0]), (cd (Try.f7.body.getD .skip) [1, 1, 1, 0]), (cd (Try.f7.body.getD .skip) [1, 1, 1, 1, 0, 0])]) (N := (fun s w => s7_p12 K (s 3) (s 4) (s 5) (s 6) (s 21) (s 22) (s 23) w)) (N' := (s7_p12_den K)) (X := (fun i => (fun _ _ => False))) (X' := (fun i => (fun _ _ => False))) (R := s7_R K) (s := s) (w := w) (p := s7_p13 K (s 0) w) (q := s7_p13_den K s w) (fun s w h => s7_p12_ok K s w @h) (fun i => tr_id) (by kernel_rfl) (by kernel_rfl) @h
/-- the call, from the text -/
theorem c7 (t0 : Value) {K : Value → World → Prop} {w : World} (h : s7_p13 K t0 w) : cl Try.prog 7 #[t0] K w :=
  calls_of_tr (c := (Try.f7.body.getD .skip)) (fn := Try.f7) (q := s7_p13_den K (st0 #[t0]) w) Try.func7 (by kernel_rfl) (by kernel_rfl) (Nat.le_of_ble_eq_true (by kernel_rfl)) (by kernel_rfl) (by kernel_rfl) (s7_p13_ok K (st0 #[t0]) w @h)

/-! ### function 8 : e2e.disklaw.CloneIsApart -/
def s8_R (K : Value → World → Prop) (s : Nat → Value) (w : World) : Prop := retv Try.prog s Try.f8.results.toList (fun vs => K (pack vs) w) w
def s8_p1 (K : Value → World → Prop) (t3 t7 : Value) (w : World) : Prop :=
  cl Try.prog 18 #[t7] (fun t107 w =>
  cl Try.prog 18 #[t3] (fun t109 w =>
  cl Try.prog 17 #[t107, t109] (fun t110 w =>
  K t110 w) w) w) w
def s8_p1_den (K : Value → World → Prop) : (Nat → Value) → World → Prop := denL Try.prog [(cd (Try.f8.body.getD .skip) [1, 1, 1, 1, 1, 1, 1, 1, 1, 1, 1, 1, 1, 0]), (cd (Try.f8.body.getD .skip) [1, 1, 1, 1, 1, 1, 1, 1, 1, 1, 1, 1, 1, 1])] (fun _ _ => False) (fun i => (fun _ _ => False)) (s8_R K)
theorem s8_p1_ok (K : Value → World → Prop) (s : Nat → Value) (w : World) (h : s8_p1 K (s 3) (s 7) w) : Tr (s8_p1_den K s w) :=
  tr_simple (P := Try.prog) (codes := [(cd (Try.f8.body.getD .skip) [1, 1, 1, 1, 1, 1, 1, 1, 1, 1, 1, 1, 1, 0]), (cd (Try.f8.body.getD .skip) [1, 1, 1, 1, 1, 1, 1, 1, 1, 1, 1, 1, 1, 1])]) (N := (fun _ _ => False)) (N' := (fun _ _ => False)) (X := (fun i => (fun _ _ => False))) (X' := (fun i => (fun _ _ => False))) (R := s8_R K) (s := s) (w := w) (p := s8_p1 K (s 3) (s 7) w) (q := s8_p1_den K s w) tr_id (fun i => tr_id) (by kernel_rfl) (by kernel_rfl) @h
def s8_p2 (K : Value → World → Prop) (B1 : List Value → World → Prop) (t3 t7 t9 t10 t77 t78 t79 : Value) (w : World) : Prop :=
  boI .lss t79 t78 (fun t80 w =>
  ifb t80
  (ixs 8 t77 t79 (fun t82 w =>
  ldn 8 t82 (fun t83 w =>
  nw 34 #[(.int .i64 0), (.int .i64 0), (.slice none 0 0), (.int .i64 0), (.int .i64 0), (.slice none 0 0), (.int .i64 0), (.int .i64 0)] (fun t16 w =>
  stn 8 t16 t83 (fun w =>
  ldn 8 t16 (fun t86 w =>
  cl Try.prog 14 #[t7, t86] (fun t87 w =>
  exq t87 0 (fun t88 w =>
  exq t87 1 (fun t89 w =>
  ixs 1 t9 t79 (fun t93 w =>
  ld1 t93 (fun t94 w =>
  boI .neq t88 t94 (fun t95 w =>
  gd t95 false (fun K w => K t89 w) (fun t97 w =>
  gd t95 false (fun K w => K t10 w) (fun t98 w =>
  gd t95 false (fun K w => K t79 w) (fun t99 w =>
  gd t95 false (ixs 1 t98 t99) (fun t100 w =>
  gd t95 false (ld1 t100) (fun t101 w =>
  gd t95 false (cl Try.prog 16 #[t97, t101]) (fun t102 w =>
  gd t95 false (un .not t102) (fun t103 w =>
  pk t95 (.bool true) t103 (fun t104 w =>
  ifb t104
  (K (.bool false) w)
  (boI .add t79 (.int .i64 1) (fun t105 w =>
  B1 [t3, t7, t9, t10, t77, t78, t105] w) w)) w) w) w) w) w) w) w) w) w) w) w) w) w) w) w) w) w) w) w)
  (s8_p1 K t3 t7 w)) w
def s8_p2_den (K : Value → World → Prop) (M1 : (Nat → Value) → World → Prop) : (Nat → Value) → World → Prop := denL Try.prog [(cd (Try.f8.body.getD .skip) [1, 1, 1, 1, 1, 1, 1, 1, 1, 1, 1, 1, 0, 1, 0, 0, 0]), (cd (Try.f8.body.getD .skip) [1, 1, 1, 1, 1, 1, 1, 1, 1, 1, 1, 1, 0, 1, 0, 0, 1, 0]), (cd (Try.f8.body.getD .skip) [1, 1, 1, 1, 1, 1, 1, 1, 1, 1, 1, 1, 0, 1, 0, 0, 1, 1, 0]), (cd (Try.f8.body.getD .skip) [1, 1, 1, 1, 1, 1, 1, 1, 1, 1, 1, 1, 0, 1, 0, 0, 1, 1, 1])] M1 (fun i => (bif Nat.beq i 4 then (s8_p1_den K) else (fun _ _ => False))) (s8_R K)
theorem s8_p2_ok (K : Value → World → Prop) (B1 : List Value → World → Prop) (s : Nat → Value) (w : World) (h : s8_p2 K B1 (s 3) (s 7) (s 9) (s 10) (s 77) (s 78) (s 79) w) : Tr (s8_p2_den K (fun s w => B1 [s 3, s 7, s 9, s 10, s 77, s 78, s 79] w) s w) :=
  tr_simple (P := Try.prog) (codes := [(cd (Try.f8.body.getD .skip) [1, 1, 1, 1, 1, 1, 1, 1, 1, 1, 1, 1, 0, 1, 0, 0, 0]), (cd (Try.f8.body.getD .skip) [1, 1, 1, 1, 1, 1, 1, 1, 1, 1, 1, 1, 0, 1, 0, 0, 1, 0]), (cd (Try.f8.body.getD .skip) [1, 1, 1, 1, 1, 1, 1, 1, 1, 1, 1, 1, 0, 1, 0, 0, 1, 1, 0]), (cd (Try.f8.body.getD .skip) [1, 1, 1, 1, 1, 1, 1, 1, 1, 1, 1, 1, 0, 1, 0, 0, 1, 1, 1])]) (N := (fun s w => B1 [s 3, s 7, s 9, s 10, s 77, s 78, s 79] w)) (N' := (fun s w => B1 [s 3, s 7, s 9, s 10, s 77, s 78, s 79] w)) (X := (fun i => (bif Nat.beq i 4 then (fun s w => s8_p1 K (s 3) (s 7) w) else (fun _ _ => False)))) (X' := (fun i => (bif Nat.beq i 4 then (s8_p1_den K) else (fun _ _ => False)))) (R := s8_R K) (s := s) (w := w) (p := s8_p2 K B1 (s 3) (s 7) (s 9) (s 10) (s 77) (s 78) (s 79) w) (q := s8_p2_den K (fun s w => B1 [s 3, s 7, s 9, s 10, s 77, s 78, s 79] w) s w) tr_id (fun i => (tr_bif (fun s w h => s8_p1_ok K s w @h) tr_id)) (by kernel_rfl) (by kernel_rfl) @h
def s8_p3_F (K : Value → World → Prop) (B1 : List Value → World → Prop) (l : List Value) (w : World) : Prop :=
  match l with
  | [t3, t7, t9, t10, t77, t78, t79] => s8_p2 K B1 t3 t7 t9 t10 t77 t78 t79 w
  | _ => False
theorem s8_p3_Fe {K : Value → World → Prop} {B1 : List Value → World → Prop} {t3 t7 t9 t10 t77 t78 t79 : Value} {w : World} : s8_p3_F K B1 [t3, t7, t9, t10, t77, t78, t79] w = s8_p2 K B1 t3 t7 t9 t10 t77 t78 t79 w := by kernel_rfl
def s8_p3 (K : Value → World → Prop) (t3 t7 t9 t10 t77 t78 t79 : Value) (w : World) : Prop :=
  LoopL (s8_p3_F K) [t3, t7, t9, t10, t77, t78, t79] w
def s8_p3_den (K : Value → World → Prop) : (Nat → Value) → World → Prop := fun s w => LoopP (fun M1 s w => s8_p2_den K M1 s w) s w
theorem s8_p3_ok (K : Value → World → Prop) (s : Nat → Value) (w : World) (h : s8_p3 K (s 3) (s 7) (s 9) (s 10) (s 77) (s 78) (s 79) w) : Tr (s8_p3_den K s w) :=
  tr_loop (G := fun N' s w => s8_p2_den K N' s w) (F := s8_p3_F K) (sel := fun s => [s 3, s 7, s 9, s 10, s 77, s 78, s 79]) (s := s) (w := w) (p := s8_p3 K (s 3) (s 7) (s 9) (s 10) (s 77) (s 78) (s 79) w) (q := s8_p3_den K s w) (fun B s w h => s8_p2_ok K B s w @h) (by kernel_rfl) (by kernel_rfl) @h
def s8_p4 (K : Value → World → Prop) (t0 t3 t4 t7 t9 t10 t74 : Value) (w : World) : Prop :=
  ifb t74
  (K (.bool false) w)
  (sls 8 t0 (some t4) none (fun t77 w =>
  lnS t77 (fun t78 w =>
  s8_p3 K t3 t7 t9 t10 t77 t78 (.int .i64 0) w) w) w)
def s8_p4_den (K : Value → World → Prop) : (Nat → Value) → World → Prop := denL Try.prog [(cd (Try.f8.body.getD .skip) [1, 1, 1, 1, 1, 1, 1, 1, 1, 1, 1, 0, 1]), (cd (Try.f8.body.getD .skip) [1, 1, 1, 1, 1, 1, 1, 1, 1, 1, 1, 1, 0, 0])] (s8_p3_den K) (fun i => (fun _ _ => False)) (s8_R K)
theorem s8_p4_ok (K : Value → World → Prop) (s : Nat → Value) (w : World) (h : s8_p4 K (s 0) (s 3) (s 4) (s 7) (s 9) (s 10) (s 74) w) : Tr (s8_p4_den K s w) :=
  tr_simple (P := Try.prog) (codes := [(cd (Try.f8.body.getD .skip) [1, 1, 1, 1, 1, 1, 1, 1, 1, 1, 1, 0, 1]), (cd (Try.f8.body.getD .skip) [1, 1, 1, 1, 1, 1, 1, 1, 1, 1, 1, 1, 0, 0])]) (N := (fun s w => s8_p3 K (s 3) (s 7) (s 9) (s 10) (s 77) (s 78) (s 79) w)) (N' := (s8_p3_den K)) (X := (fun i => (fun _ _ => False))) (X' := (fun i => (fun _ _ => False))) (R := s8_R K) (s := s) (w := w) (p := s8_p4 K (s 0) (s 3) (s 4) (s 7) (s 9) (s 10) (s 74) w) (q := s8_p4_den K s w) (fun s w h => s8_p3_ok K s w @h) (fun i => tr_id) (by kernel_rfl) (by kernel_rfl) @h
def s8_p5_d (K : Value → World → Prop) (t0 t3 t4 t7 t8 t9 t10 : Value) (w0 w : World) : Prop :=
  ldn 13 t8 (fun t70 _ =>
  cl Try.prog 18 #[t7] (fun t72 w =>
  Below w0.heap.size w0 w ∧
  cl Try.prog 17 #[t70, t72] (fun t73 w =>
  un .not t73 (fun t74 w =>
  s8_p4 K t0 t3 t4 t7 t9 t10 t74 w) w) w) w) w0
def s8_p5 (K : Value → World → Prop) (t0 t3 t4 t7 t8 t9 t10 : Value) (w : World) : Prop := s8_p5_d K t0 t3 t4 t7 t8 t9 t10 (drw w) (drw w)
def s8_p5_den (K : Value → World → Prop) : (Nat → Value) → World → Prop := denL Try.prog [(cd (Try.f8.body.getD .skip) [1, 1, 1, 1, 1, 1, 1, 1, 1, 1, 1, 0, 0])] (s8_p4_den K) (fun i => (fun _ _ => False)) (s8_R K)
theorem s8_p5_ok (K : Value → World → Prop) (s : Nat → Value) (w : World) (h : s8_p5 K (s 0) (s 3) (s 4) (s 7) (s 8) (s 9) (s 10) w) : Tr (s8_p5_den K s w) :=
  tr_draw (P := Try.prog) (ops := (ro (cd (Try.f8.body.getD .skip) [1, 1, 1, 1, 1, 1, 1, 1, 1, 1, 1, 0, 0]))) (ms := [0, 0, 2, 7, 15]) (cs := [0, 1]) (N := (fun s w => s8_p4 K (s 0) (s 3) (s 4) (s 7) (s 9) (s 10) (s 74) w)) (N' := (s8_p4_den K)) (s := s) (w := w) (p := s8_p5 K (s 0) (s 3) (s 4) (s 7) (s 8) (s 9) (s 10) w) (q := s8_p5_den K s w) (by kernel_rfl) (by kernel_rfl) (fun s w h => s8_p4_ok K s w @h) (by kernel_rfl) (by kernel_rfl) @h
def s8_p6 (K : Value → World → Prop) (B1 : List Value → World → Prop) (t0 t3 t4 t7 t8 t9 t10 t49 t50 t51 : Value) (w : World) : Prop :=
  boI .lss t51 t50 (fun t52 w =>
  ifb t52
  (ixs 8 t49 t51 (fun t53 w =>
  ldn 8 t53 (fun t54 w =>
  nw 34 #[(.int .i64 0), (.int .i64 0), (.slice none 0 0), (.int .i64 0), (.int .i64 0), (.slice none 0 0), (.int .i64 0), (.int .i64 0)] (fun t12 w =>
  stn 8 t12 t54 (fun w =>
  ldn 8 t12 (fun t57 w =>
  cl Try.prog 14 #[t3, t57] (fun t58 w =>
  exq t58 0 (fun t59 w =>
  exq t58 1 (fun t60 w =>
  bsq 35 [(.int .i64 0)] 1 [(some (0, 1), t59)] (fun t63 w =>
  apq 35 [(.int .i64 0)] 8 t9 t63 (fun t64 w =>
  bsq 29 [(.slice none 0 0)] 1 [(some (0, 1), t60)] (fun t67 w =>
  apq 29 [(.slice none 0 0)] 24 t10 t67 (fun t68 w =>
  boI .add t51 (.int .i64 1) (fun t69 w =>
  B1 [t0, t3, t4, t7, t8, t64, t68, t49, t50, t69] w) w) w) w) w) w) w) w) w) w) w) w) w) w)
  (s8_p5 K t0 t3 t4 t7 t8 t9 t10 w)) w
def s8_p6_den (K : Value → World → Prop) (M1 : (Nat → Value) → World → Prop) : (Nat → Value) → World → Prop := denL Try.prog [(cd (Try.f8.body.getD .skip) [1, 1, 1, 1, 1, 1, 1, 1, 1, 1, 0, 1, 0, 0, 0]), (cd (Try.f8.body.getD .skip) [1, 1, 1, 1, 1, 1, 1, 1, 1, 1, 0, 1, 0, 0, 1, 0]), (cd (Try.f8.body.getD .skip) [1, 1, 1, 1, 1, 1, 1, 1, 1, 1, 0, 1, 0, 0, 1, 1, 0]), (cd (Try.f8.body.getD .skip) [1, 1, 1, 1, 1, 1, 1, 1, 1, 1, 0, 1, 0, 0, 1, 1, 1])] M1 (fun i => (bif Nat.beq i 2 then (s8_p5_den K) else (fun _ _ => False))) (s8_R K)
theorem s8_p6_ok (K : Value → World → Prop) (B1 : List Value → World → Prop) (s : Nat → Value) (w : World) (h : s8_p6 K B1 (s 0) (s 3) (s 4) (s 7) (s 8) (s 9) (s 10) (s 49) (s 50) (s 51) w) : Tr (s8_p6_den K (fun s w => B1 [s 0, s 3, s 4, s 7, s 8, s 9, s 10, s 49, s 50, s 51] w) s w) :=
  tr_simple (P := Try.prog) (codes := [(cd (Try.f8.body.getD .skip) [1, 1, 1, 1, 1, 1, 1, 1, 1, 1, 0, 1, 0, 0, 0]), (cd (Try.f8.body.getD .skip) [1, 1, 1, 1, 1, 1, 1, 1, 1, 1, 0, 1, 0, 0, 1, 0]), (cd (Try.f8.body.getD .skip) [1, 1, 1, 1, 1, 1, 1, 1, 1, 1, 0, 1, 0, 0, 1, 1, 0]), (cd (Try.f8.body.getD .skip) [1, 1, 1, 1, 1, 1, 1, 1, 1, 1, 0, 1, 0, 0, 1, 1, 1])]) (N := (fun s w => B1 [s 0, s 3, s 4, s 7, s 8, s 9, s 10, s 49, s 50, s 51] w)) (N' := (fun s w => B1 [s 0, s 3, s 4, s 7, s 8, s 9, s 10, s 49, s 50, s 51] w)) (X := (fun i => (bif Nat.beq i 2 then (fun s w => s8_p5 K (s 0) (s 3) (s 4) (s 7) (s 8) (s 9) (s 10) w) else (fun _ _ => False)))) (X' := (fun i => (bif Nat.beq i 2 then (s8_p5_den K) else (fun _ _ => False)))) (R := s8_R K) (s := s) (w := w) (p := s8_p6 K B1 (s 0) (s 3) (s 4) (s 7) (s 8) (s 9) (s 10) (s 49) (s 50) (s 51) w) (q := s8_p6_den K (fun s w => B1 [s 0, s 3, s 4, s 7, s 8, s 9, s 10, s 49, s 50, s 51] w) s w) tr_id (fun i => (tr_bif (fun s w h => s8_p5_ok K s w @h) tr_id)) (by kernel_rfl) (by kernel_rfl) @h
def s8_p7_F (K : Value → World → Prop) (B1 : List Value → World → Prop) (l : List Value) (w : World) : Prop :=
  match l with
  | [t0, t3, t4, t7, t8, t9, t10, t49, t50, t51] => s8_p6 K B1 t0 t3 t4 t7 t8 t9 t10 t49 t50 t51 w
  | _ => False
theorem s8_p7_Fe {K : Value → World → Prop} {B1 : List Value → World → Prop} {t0 t3 t4 t7 t8 t9 t10 t49 t50 t51 : Value} {w : World} : s8_p7_F K B1 [t0, t3, t4, t7, t8, t9, t10, t49, t50, t51] w = s8_p6 K B1 t0 t3 t4 t7 t8 t9 t10 t49 t50 t51 w := by kernel_rfl
def s8_p7 (K : Value → World → Prop) (t0 t3 t4 t7 t8 t9 t10 t49 t50 t51 : Value) (w : World) : Prop :=
  LoopL (s8_p7_F K) [t0, t3, t4, t7, t8, t9, t10, t49, t50, t51] w
def s8_p7_den (K : Value → World → Prop) : (Nat → Value) → World → Prop := fun s w => LoopP (fun M1 s w => s8_p6_den K M1 s w) s w
theorem s8_p7_ok (K : Value → World → Prop) (s : Nat → Value) (w : World) (h : s8_p7 K (s 0) (s 3) (s 4) (s 7) (s 8) (s 9) (s 10) (s 49) (s 50) (s 51) w) : Tr (s8_p7_den K s w) :=
  tr_loop (G := fun N' s w => s8_p6_den K N' s w) (F := s8_p7_F K) (sel := fun s => [s 0, s 3, s 4, s 7, s 8, s 9, s 10, s 49, s 50, s 51]) (s := s) (w := w) (p := s8_p7 K (s 0) (s 3) (s 4) (s 7) (s 8) (s 9) (s 10) (s 49) (s 50) (s 51) w) (q := s8_p7_den K s w) (fun B s w h => s8_p6_ok K B s w @h) (by kernel_rfl) (by kernel_rfl) @h
def s8_p8 (K : Value → World → Prop) (t0 t3 t4 t7 t8 t46 : Value) (w : World) : Prop :=
  ifb t46
  (K (.bool false) w)
  (sls 8 t0 (some t4) none (fun t49 w =>
  lnS t49 (fun t50 w =>
  s8_p7 K t0 t3 t4 t7 t8 (.slice none 0 0) (.slice none 0 0) t49 t50 (.int .i64 0) w) w) w)
def s8_p8_den (K : Value → World → Prop) : (Nat → Value) → World → Prop := denL Try.prog [(cd (Try.f8.body.getD .skip) [1, 1, 1, 1, 1, 1, 1, 0, 1]), (cd (Try.f8.body.getD .skip) [1, 1, 1, 1, 1, 1, 1, 1, 0]), (cd (Try.f8.body.getD .skip) [1, 1, 1, 1, 1, 1, 1, 1, 1, 0]), (cd (Try.f8.body.getD .skip) [1, 1, 1, 1, 1, 1, 1, 1, 1, 1, 0, 0])] (s8_p7_den K) (fun i => (fun _ _ => False)) (s8_R K)
theorem s8_p8_ok (K : Value → World → Prop) (s : Nat → Value) (w : World) (h : s8_p8 K (s 0) (s 3) (s 4) (s 7) (s 8) (s 46) w) : Tr (s8_p8_den K s w) :=
  tr_simple (P := Try.prog) (codes := [(cd (Try.f8.body.getD .skip) [1, 1, 1, 1, 1, 1, 1, 0, 1]), (cd (Try.f8.body.getD .skip) [1, 1, 1, 1, 1, 1, 1, 1, 0]), (cd (Try.f8.body.getD .skip) [1, 1, 1, 1, 1, 1, 1, 1, 1, 0]), (cd (Try.f8.body.getD .skip) [1, 1, 1, 1, 1, 1, 1, 1, 1, 1, 0, 0])]) (N := (fun s w => s8_p7 K (s 0) (s 3) (s 4) (s 7) (s 8) (s 9) (s 10) (s 49) (s 50) (s 51) w)) (N' := (s8_p7_den K)) (X := (fun i => (fun _ _ => False))) (X' := (fun i => (fun _ _ => False))) (R := s8_R K) (s := s) (w := w) (p := s8_p8 K (s 0) (s 3) (s 4) (s 7) (s 8) (s 46) w) (q := s8_p8_den K s w) (fun s w h => s8_p7_ok K s w @h) (fun i => tr_id) (by kernel_rfl) (by kernel_rfl) @h
def s8_p9_d (K : Value → World → Prop) (t0 t3 t4 t7 t8 : Value) (w0 w : World) : Prop :=
  ldn 13 t8 (fun t42 _ =>
  cl Try.prog 18 #[t3] (fun t44 w =>
  Below w0.heap.size w0 w ∧
  cl Try.prog 17 #[t42, t44] (fun t45 w =>
  un .not t45 (fun t46 w =>
  s8_p8 K t0 t3 t4 t7 t8 t46 w) w) w) w) w0
def s8_p9 (K : Value → World → Prop) (t0 t3 t4 t7 t8 : Value) (w : World) : Prop := s8_p9_d K t0 t3 t4 t7 t8 (drw w) (drw w)
def s8_p9_den (K : Value → World → Prop) : (Nat → Value) → World → Prop := denL Try.prog [(cd (Try.f8.body.getD .skip) [1, 1, 1, 1, 1, 1, 1, 0, 0])] (s8_p8_den K) (fun i => (fun _ _ => False)) (s8_R K)
theorem s8_p9_ok (K : Value → World → Prop) (s : Nat → Value) (w : World) (h : s8_p9 K (s 0) (s 3) (s 4) (s 7) (s 8) w) : Tr (s8_p9_den K s w) :=
  tr_draw (P := Try.prog) (ops := (ro (cd (Try.f8.body.getD .skip) [1, 1, 1, 1, 1, 1, 1, 0, 0]))) (ms := [0, 0, 2, 7, 15]) (cs := [0, 1]) (N := (fun s w => s8_p8 K (s 0) (s 3) (s 4) (s 7) (s 8) (s 46) w)) (N' := (s8_p8_den K)) (s := s) (w := w) (p := s8_p9 K (s 0) (s 3) (s 4) (s 7) (s 8) w) (q := s8_p9_den K s w) (by kernel_rfl) (by kernel_rfl) (fun s w h => s8_p8_ok K s w @h) (by kernel_rfl) (by kernel_rfl) @h
def s8_p10 (K : Value → World → Prop) (t0 t3 t4 : Value) (w : World) : Prop :=
  cl Try.prog 25 #[t3] (fun t39 w =>
  cl Try.prog 18 #[t39] (fun t41 w =>
  nw 45 #[(.bool false), (.int .i64 0), (.slice none 0 0), (.int .i64 0), (.int .i64 0), (.slice none 0 0), (.int .i64 0), (.int .i64 0), (.int .i64 0), (.int .i64 0), (.int .i64 0), (.slice none 0 0), (.slice none 0 0)] (fun t8 w =>
  stn 13 t8 t41 (fun w =>
  s8_p9 K t0 t3 t4 t39 t8 w) w) w) w) w
def s8_p10_den (K : Value → World → Prop) : (Nat → Value) → World → Prop := denL Try.prog [(cd (Try.f8.body.getD .skip) [1, 1, 1, 1, 1, 0]), (cd (Try.f8.body.getD .skip) [1, 1, 1, 1, 1, 1, 0])] (s8_p9_den K) (fun i => (fun _ _ => False)) (s8_R K)
theorem s8_p10_ok (K : Value → World → Prop) (s : Nat → Value) (w : World) (h : s8_p10 K (s 0) (s 3) (s 4) w) : Tr (s8_p10_den K s w) :=
  tr_simple (P := Try.prog) (codes := [(cd (Try.f8.body.getD .skip) [1, 1, 1, 1, 1, 0]), (cd (Try.f8.body.getD .skip) [1, 1, 1, 1, 1, 1, 0])]) (N := (fun s w => s8_p9 K (s 0) (s 3) (s 4) (s 7) (s 8) w)) (N' := (s8_p9_den K)) (X := (fun i => (fun _ _ => False))) (X' := (fun i => (fun _ _ => False))) (R := s8_R K) (s := s) (w := w) (p := s8_p10 K (s 0) (s 3) (s 4) w) (q := s8_p10_den K s w) (fun s w h => s8_p9_ok K s w @h) (fun i => tr_id) (by kernel_rfl) (by kernel_rfl) @h
def s8_p11 (K : Value → World → Prop) (B1 : List Value → World → Prop) (t0 t3 t4 t28 t29 t30 : Value) (w : World) : Prop :=
  boI .lss t30 t29 (fun t31 w =>
  ifb t31
  (ixs 8 t28 t30 (fun t32 w =>
  ldn 8 t32 (fun t33 w =>
  nw 34 #[(.int .i64 0), (.int .i64 0), (.slice none 0 0), (.int .i64 0), (.int .i64 0), (.slice none 0 0), (.int .i64 0), (.int .i64 0)] (fun t6 w =>
  stn 8 t6 t33 (fun w =>
  ldn 8 t6 (fun t35 w =>
  cl Try.prog 14 #[t3, t35] (fun t36 w =>
  boI .add t30 (.int .i64 1) (fun t37 w =>
  B1 [t0, t3, t4, t28, t29, t37] w) w) w) w) w) w) w) w)
  (s8_p10 K t0 t3 t4 w)) w
def s8_p11_den (K : Value → World → Prop) (M1 : (Nat → Value) → World → Prop) : (Nat → Value) → World → Prop := denL Try.prog [(cd (Try.f8.body.getD .skip) [1, 1, 1, 1, 0, 1, 0, 0, 0]), (cd (Try.f8.body.getD .skip) [1, 1, 1, 1, 0, 1, 0, 0, 1, 0]), (cd (Try.f8.body.getD .skip) [1, 1, 1, 1, 0, 1, 0, 0, 1, 1, 0]), (cd (Try.f8.body.getD .skip) [1, 1, 1, 1, 0, 1, 0, 0, 1, 1, 1])] M1 (fun i => (bif Nat.beq i 0 then (s8_p10_den K) else (fun _ _ => False))) (s8_R K)
theorem s8_p11_ok (K : Value → World → Prop) (B1 : List Value → World → Prop) (s : Nat → Value) (w : World) (h : s8_p11 K B1 (s 0) (s 3) (s 4) (s 28) (s 29) (s 30) w) : Tr (s8_p11_den K (fun s w => B1 [s 0, s 3, s 4, s 28, s 29, s 30] w) s w) :=
  tr_simple (P := Try.prog) (codes := [(cd (Try.f8.body.getD .skip) [1, 1, 1, 1, 0, 1, 0, 0, 0]), (cd (Try.f8.body.getD .skip) [1, 1, 1, 1, 0, 1, 0, 0, 1, 0]), (cd (Try.f8.body.getD .skip) [1, 1, 1, 1, 0, 1, 0, 0, 1, 1, 0]), (cd (Try.f8.body.getD .skip) [1, 1, 1, 1, 0, 1, 0, 0, 1, 1, 1])]) (N := (fun s w => B1 [s 0, s 3, s 4, s 28, s 29, s 30] w)) (N' := (fun s w => B1 [s 0, s 3, s 4, s 28, s 29, s 30] w)) (X := (fun i => (bif Nat.beq i 0 then (fun s w => s8_p10 K (s 0) (s 3) (s 4) w) else (fun _ _ => False)))) (X' := (fun i => (bif Nat.beq i 0 then (s8_p10_den K) else (fun _ _ => False)))) (R := s8_R K) (s := s) (w := w) (p := s8_p11 K B1 (s 0) (s 3) (s 4) (s 28) (s 29) (s 30) w) (q := s8_p11_den K (fun s w => B1 [s 0, s 3, s 4, s 28, s 29, s 30] w) s w) tr_id (fun i => (tr_bif (fun s w h => s8_p10_ok K s w @h) tr_id)) (by kernel_rfl) (by kernel_rfl) @h
def s8_p12_F (K : Value → World → Prop) (B1 : List Value → World → Prop) (l : List Value) (w : World) : Prop :=
  match l with
  | [t0, t3, t4, t28, t29, t30] => s8_p11 K B1 t0 t3 t4 t28 t29 t30 w
  | _ => False
theorem s8_p12_Fe {K : Value → World → Prop} {B1 : List Value → World → Prop} {t0 t3 t4 t28 t29 t30 : Value} {w : World} : s8_p12_F K B1 [t0, t3, t4, t28, t29, t30] w = s8_p11 K B1 t0 t3 t4 t28 t29 t30 w := by kernel_rfl
def s8_p12 (K : Value → World → Prop) (t0 t3 t4 t28 t29 t30 : Value) (w : World) : Prop :=
  LoopL (s8_p12_F K) [t0, t3, t4, t28, t29, t30] w
def s8_p12_den (K : Value → World → Prop) : (Nat → Value) → World → Prop := fun s w => LoopP (fun M1 s w => s8_p11_den K M1 s w) s w
theorem s8_p12_ok (K : Value → World → Prop) (s : Nat → Value) (w : World) (h : s8_p12 K (s 0) (s 3) (s 4) (s 28) (s 29) (s 30) w) : Tr (s8_p12_den K s w) :=
  tr_loop (G := fun N' s w => s8_p11_den K N' s w) (F := s8_p12_F K) (sel := fun s => [s 0, s 3, s 4, s 28, s 29, s 30]) (s := s) (w := w) (p := s8_p12 K (s 0) (s 3) (s 4) (s 28) (s 29) (s 30) w) (q := s8_p12_den K s w) (fun B s w h => s8_p11_ok K B s w @h) (by kernel_rfl) (by kernel_rfl) @h
def s8_p13 (K : Value → World → Prop) (t0 : Value) (w : World) : Prop :=
  cl Try.prog 11 #[t0] (fun t20 w =>
  un .not t20 (fun t21 w =>
  ifb t21
  (K (.bool true) w)
  (cl Try.prog 12 #[] (fun t22 w =>
  lnS t0 (fun t24 w =>
  boI .quo t24 (.int .i64 2) (fun t25 w =>
  sls 8 t0 none (some t25) (fun t28 w =>
  lnS t28 (fun t29 w =>
  s8_p12 K t0 t22 t25 t28 t29 (.int .i64 0) w) w) w) w) w) w)) w) w
def s8_p13_den (K : Value → World → Prop) : (Nat → Value) → World → Prop := denL Try.prog [(cd (Try.f8.body.getD .skip) [0]), (cd (Try.f8.body.getD .skip) [1, 0, 0]), (cd (Try.f8.body.getD .skip) [1, 0, 1]), (cd (Try.f8.body.getD .skip) [1, 1, 0]), (cd (Try.f8.body.getD .skip) [1, 1, 1, 0]), (cd (Try.f8.body.getD .skip) [1, 1, 1, 1, 0, 0])] (s8_p12_den K) (fun i => (fun _ _ => False)) (s8_R K)
theorem s8_p13_ok (K : Value → World → Prop) (s : Nat → Value) (w : World) (h : s8_p13 K (s 0) w) : Tr (s8_p13_den K s w) :=
  tr_simple (P := Try.prog) (codes := [(cd (Try.f8.body.getD .skip) [0]), (cd (Try.f8.body.getD .skip) [1, 0, 0]), (cd (Try.f8.body.getD .skip) [1, 0, 1]), (cd (Try.f8.body.getD .skip) [1, 1, 0]), (cd (Try.f8.body.getD .skip) [1, 1, 1, 0]), (cd (Try.f8.body.getD .skip) [1, 1, 1, 1, 0, 0])]) (N := (fun s w => s8_p12 K (s 0) (s 3) (s 4) (s 28) (s 29) (s 30) w)) (N' := (s8_p12_den K)) (X := (fun i => (fun _ _ => False))) (X' := (fun i => (fun _ _ => False))) (R := s8_R K) (s := s) (w := w) (p := s8_p13 K (s 0) w) (q := s8_p13_den K s w) (fun s w h => s8_p12_ok K s w @h) (fun i => tr_id) (by kernel_rfl) (by kernel_rfl) @h
/-- the call, from the text -/
theorem c8 (t0 : Value) {K : Value → World → Prop} {w : World} (h : s8_p13 K t0 w) : cl Try.prog 8 #[t0] K w :=
  calls_of_tr (c := (Try.f8.body.getD .skip)) (fn := Try.f8) (q := s8_p13_den K (st0 #[t0]) w) Try.func8 (by kernel_rfl) (by kernel_rfl) (Nat.le_of_ble_eq_true (by kernel_rfl)) (by kernel_rfl) (by kernel_rfl) (s8_p13_ok K (st0 #[t0]) w @h)

/-! ### function 9 : e2e.disklaw.CallerKeepsItsMemory -/
def s9_R (K : Value → World → Prop) (s : Nat → Value) (w : World) : Prop := retv Try.prog s Try.f9.results.toList (fun vs => K (pack vs) w) w
def s9_p1 (K : Value → World → Prop) (w : World) : Prop :=
  K (.bool true) w
def s9_p1_den (K : Value → World → Prop) : (Nat → Value) → World → Prop := denL Try.prog [(cd (Try.f9.body.getD .skip) [1, 1, 1, 1, 0]), (cd (Try.f9.body.getD .skip) [1, 1, 1, 1, 1])] (fun _ _ => False) (fun i => (fun _ _ => False)) (s9_R K)
theorem s9_p1_ok (K : Value → World → Prop) (s : Nat → Value) (w : World) (h : s9_p1 K w) : Tr (s9_p1_den K s w) :=
  tr_simple (P := Try.prog) (codes := [(cd (Try.f9.body.getD .skip) [1, 1, 1, 1, 0]), (cd (Try.f9.body.getD .skip) [1, 1, 1, 1, 1])]) (N := (fun _ _ => False)) (N' := (fun _ _ => False)) (X := (fun i => (fun _ _ => False))) (X' := (fun i => (fun _ _ => False))) (R := s9_R K) (s := s) (w := w) (p := s9_p1 K w) (q := s9_p1_den K s w) tr_id (fun i => tr_id) (by kernel_rfl) (by kernel_rfl) @h
def s9_p2 (K : Value → World → Prop) (B1 : List Value → World → Prop) (t3 t4 t15 t16 t17 : Value) (w : World) : Prop :=
  boI .add t17 (.int .i64 1) (fun t75 w =>
  B1 [t3, t4, t15, t16, t75] w) w
def s9_p2_den (K : Value → World → Prop) (M1 : (Nat → Value) → World → Prop) : (Nat → Value) → World → Prop := denL Try.prog [(cd (Try.f9.body.getD .skip) [1, 1, 1, 0, 1, 0, 0, 1, 1, 1])] M1 (fun i => (bif Nat.beq i 0 then (s9_p1_den K) else (fun _ _ => False))) (s9_R K)
theorem s9_p2_ok (K : Value → World → Prop) (B1 : List Value → World → Prop) (s : Nat → Value) (w : World) (h : s9_p2 K B1 (s 3) (s 4) (s 15) (s 16) (s 17) w) : Tr (s9_p2_den K (fun s w => B1 [s 3, s 4, s 15, s 16, s 17] w) s w) :=
  tr_simple (P := Try.prog) (codes := [(cd (Try.f9.body.getD .skip) [1, 1, 1, 0, 1, 0, 0, 1, 1, 1])]) (N := (fun s w => B1 [s 3, s 4, s 15, s 16, s 17] w)) (N' := (fun s w => B1 [s 3, s 4, s 15, s 16, s 17] w)) (X := (fun i => (bif Nat.beq i 0 then (fun s w => s9_p1 K w) else (fun _ _ => False)))) (X' := (fun i => (bif Nat.beq i 0 then (s9_p1_den K) else (fun _ _ => False)))) (R := s9_R K) (s := s) (w := w) (p := s9_p2 K B1 (s 3) (s 4) (s 15) (s 16) (s 17) w) (q := s9_p2_den K (fun s w => B1 [s 3, s 4, s 15, s 16, s 17] w) s w) tr_id (fun i => (tr_bif (fun s w h => s9_p1_ok K s w @h) tr_id)) (by kernel_rfl) (by kernel_rfl) @h
def s9_p3 (K : Value → World → Prop) (B1 : List Value → World → Prop) (t3 t4 t15 t16 t17 : Value) (w : World) : Prop :=
  cl Try.prog 18 #[t3] (fun t70 w =>
  cl Try.prog 18 #[t4] (fun t72 w =>
  cl Try.prog 17 #[t70, t72] (fun t73 w =>
  un .not t73 (fun t74 w =>
  ifb t74
  (K (.bool false) w)
  (s9_p2 K B1 t3 t4 t15 t16 t17 w)) w) w) w) w
def s9_p3_den (K : Value → World → Prop) (M1 : (Nat → Value) → World → Prop) : (Nat → Value) → World → Prop := denL Try.prog [(cd (Try.f9.body.getD .skip) [1, 1, 1, 0, 1, 0, 0, 1, 1, 0, 0, 1, 1, 1, 1, 1, 1, 1, 1, 0]), (cd (Try.f9.body.getD .skip) [1, 1, 1, 0, 1, 0, 0, 1, 1, 0, 0, 1, 1, 1, 1, 1, 1, 1, 1, 1])] (s9_p2_den K M1) (fun i => (bif Nat.beq i 1 then (s9_p2_den K M1) else (bif Nat.beq i 0 then (s9_p1_den K) else (fun _ _ => False)))) (s9_R K)
theorem s9_p3_ok (K : Value → World → Prop) (B1 : List Value → World → Prop) (s : Nat → Value) (w : World) (h : s9_p3 K B1 (s 3) (s 4) (s 15) (s 16) (s 17) w) : Tr (s9_p3_den K (fun s w => B1 [s 3, s 4, s 15, s 16, s 17] w) s w) :=
  tr_simple (P := Try.prog) (codes := [(cd (Try.f9.body.getD .skip) [1, 1, 1, 0, 1, 0, 0, 1, 1, 0, 0, 1, 1, 1, 1, 1, 1, 1, 1, 0]), (cd (Try.f9.body.getD .skip) [1, 1, 1, 0, 1, 0, 0, 1, 1, 0, 0, 1, 1, 1, 1, 1, 1, 1, 1, 1])]) (N := (fun s w => s9_p2 K B1 (s 3) (s 4) (s 15) (s 16) (s 17) w)) (N' := (s9_p2_den K (fun s w => B1 [s 3, s 4, s 15, s 16, s 17] w))) (X := (fun i => (bif Nat.beq i 1 then (fun s w => s9_p2 K B1 (s 3) (s 4) (s 15) (s 16) (s 17) w) else (bif Nat.beq i 0 then (fun s w => s9_p1 K w) else (fun _ _ => False))))) (X' := (fun i => (bif Nat.beq i 1 then (s9_p2_den K (fun s w => B1 [s 3, s 4, s 15, s 16, s 17] w)) else (bif Nat.beq i 0 then (s9_p1_den K) else (fun _ _ => False))))) (R := s9_R K) (s := s) (w := w) (p := s9_p3 K B1 (s 3) (s 4) (s 15) (s 16) (s 17) w) (q := s9_p3_den K (fun s w => B1 [s 3, s 4, s 15, s 16, s 17] w) s w) (fun s w h => s9_p2_ok K B1 s w @h) (fun i => (tr_bif (fun s w h => s9_p2_ok K B1 s w @h) (tr_bif (fun s w h => s9_p1_ok K s w @h) tr_id))) (by kernel_rfl) (by kernel_rfl) @h
def s9_p4 (K : Value → World → Prop) (B1 : List Value → World → Prop) (B2 : List Value → World → Prop) (t3 t4 t7 t15 t16 t17 t56 t57 : Value) (w : World) : Prop :=
  boI .lss t57 t56 (fun t58 w =>
  ifb t58
  (fd 5 t7 (fun t60 w =>
  fd 0 t60 (fun t61 w =>
  ld1 t61 (fun t62 w =>
  ixs 1 t62 t57 (fun t64 w =>
  ld1 t64 (fun t65 w =>
  boI .add t65 (.int .i64 1) (fun t66 w =>
  ixs 1 t62 t57 (fun t67 w =>
  st1 t67 t66 (fun w =>
  boI .add t57 (.int .i64 1) (fun t68 w =>
  B2 [t3, t4, t7, t15, t16, t17, t56, t68] w) w) w) w) w) w) w) w) w) w)
  (s9_p3 K B1 t3 t4 t15 t16 t17 w)) w
def s9_p4_den (K : Value → World → Prop) (M1 : (Nat → Value) → World → Prop) (M2 : (Nat → Value) → World → Prop) : (Nat → Value) → World → Prop := denL Try.prog [(cd (Try.f9.body.getD .skip) [1, 1, 1, 0, 1, 0, 0, 1, 1, 0, 0, 1, 1, 1, 1, 1, 1, 1, 0, 1, 0, 0, 0]), (cd (Try.f9.body.getD .skip) [1, 1, 1, 0, 1, 0, 0, 1, 1, 0, 0, 1, 1, 1, 1, 1, 1, 1, 0, 1, 0, 0, 1, 0]), (cd (Try.f9.body.getD .skip) [1, 1, 1, 0, 1, 0, 0, 1, 1, 0, 0, 1, 1, 1, 1, 1, 1, 1, 0, 1, 0, 0, 1, 1, 0]), (cd (Try.f9.body.getD .skip) [1, 1, 1, 0, 1, 0, 0, 1, 1, 0, 0, 1, 1, 1, 1, 1, 1, 1, 0, 1, 0, 0, 1, 1, 1])] M2 (fun i => (bif Nat.beq i 4 then (s9_p3_den K M1) else (bif Nat.beq i 1 then (s9_p2_den K M1) else (bif Nat.beq i 0 then (s9_p1_den K) else (fun _ _ => False))))) (s9_R K)
theorem s9_p4_ok (K : Value → World → Prop) (B1 : List Value → World → Prop) (B2 : List Value → World → Prop) (s : Nat → Value) (w : World) (h : s9_p4 K B1 B2 (s 3) (s 4) (s 7) (s 15) (s 16) (s 17) (s 56) (s 57) w) : Tr (s9_p4_den K (fun s w => B1 [s 3, s 4, s 15, s 16, s 17] w) (fun s w => B2 [s 3, s 4, s 7, s 15, s 16, s 17, s 56, s 57] w) s w) :=
  tr_simple (P := Try.prog) (codes := [(cd (Try.f9.body.getD .skip) [1, 1, 1, 0, 1, 0, 0, 1, 1, 0, 0, 1, 1, 1, 1, 1, 1, 1, 0, 1, 0, 0, 0]), (cd (Try.f9.body.getD .skip) [1, 1, 1, 0, 1, 0, 0, 1, 1, 0, 0, 1, 1, 1, 1, 1, 1, 1, 0, 1, 0, 0, 1, 0]), (cd (Try.f9.body.getD .skip) [1, 1, 1, 0, 1, 0, 0, 1, 1, 0, 0, 1, 1, 1, 1, 1, 1, 1, 0, 1, 0, 0, 1, 1, 0]), (cd (Try.f9.body.getD .skip) [1, 1, 1, 0, 1, 0, 0, 1, 1, 0, 0, 1, 1, 1, 1, 1, 1, 1, 0, 1, 0, 0, 1, 1, 1])]) (N := (fun s w => B2 [s 3, s 4, s 7, s 15, s 16, s 17, s 56, s 57] w)) (N' := (fun s w => B2 [s 3, s 4, s 7, s 15, s 16, s 17, s 56, s 57] w)) (X := (fun i => (bif Nat.beq i 4 then (fun s w => s9_p3 K B1 (s 3) (s 4) (s 15) (s 16) (s 17) w) else (bif Nat.beq i 1 then (fun s w => s9_p2 K B1 (s 3) (s 4) (s 15) (s 16) (s 17) w) else (bif Nat.beq i 0 then (fun s w => s9_p1 K w) else (fun _ _ => False)))))) (X' := (fun i => (bif Nat.beq i 4 then (s9_p3_den K (fun s w => B1 [s 3, s 4, s 15, s 16, s 17] w)) else (bif Nat.beq i 1 then (s9_p2_den K (fun s w => B1 [s 3, s 4, s 15, s 16, s 17] w)) else (bif Nat.beq i 0 then (s9_p1_den K) else (fun _ _ => False)))))) (R := s9_R K) (s := s) (w := w) (p := s9_p4 K B1 B2 (s 3) (s 4) (s 7) (s 15) (s 16) (s 17) (s 56) (s 57) w) (q := s9_p4_den K (fun s w => B1 [s 3, s 4, s 15, s 16, s 17] w) (fun s w => B2 [s 3, s 4, s 7, s 15, s 16, s 17, s 56, s 57] w) s w) tr_id (fun i => (tr_bif (fun s w h => s9_p3_ok K B1 s w @h) (tr_bif (fun s w h => s9_p2_ok K B1 s w @h) (tr_bif (fun s w h => s9_p1_ok K s w @h) tr_id)))) (by kernel_rfl) (by kernel_rfl) @h
def s9_p5_F (K : Value → World → Prop) (B1 : List Value → World → Prop) (B2 : List Value → World → Prop) (l : List Value) (w : World) : Prop :=
  match l with
  | [t3, t4, t7, t15, t16, t17, t56, t57] => s9_p4 K B1 B2 t3 t4 t7 t15 t16 t17 t56 t57 w
  | _ => False
theorem s9_p5_Fe {K : Value → World → Prop} {B1 : List Value → World → Prop} {B2 : List Value → World → Prop} {t3 t4 t7 t15 t16 t17 t56 t57 : Value} {w : World} : s9_p5_F K B1 B2 [t3, t4, t7, t15, t16, t17, t56, t57] w = s9_p4 K B1 B2 t3 t4 t7 t15 t16 t17 t56 t57 w := by kernel_rfl
def s9_p5 (K : Value → World → Prop) (B1 : List Value → World → Prop) (t3 t4 t7 t15 t16 t17 t56 t57 : Value) (w : World) : Prop :=
  LoopL (s9_p5_F K B1) [t3, t4, t7, t15, t16, t17, t56, t57] w
def s9_p5_den (K : Value → World → Prop) (M1 : (Nat → Value) → World → Prop) : (Nat → Value) → World → Prop := fun s w => LoopP (fun M2 s w => s9_p4_den K M1 M2 s w) s w
theorem s9_p5_ok (K : Value → World → Prop) (B1 : List Value → World → Prop) (s : Nat → Value) (w : World) (h : s9_p5 K B1 (s 3) (s 4) (s 7) (s 15) (s 16) (s 17) (s 56) (s 57) w) : Tr (s9_p5_den K (fun s w => B1 [s 3, s 4, s 15, s 16, s 17] w) s w) :=
  tr_loop (G := fun N' s w => s9_p4_den K (fun s w => B1 [s 3, s 4, s 15, s 16, s 17] w) N' s w) (F := s9_p5_F K B1) (sel := fun s => [s 3, s 4, s 7, s 15, s 16, s 17, s 56, s 57]) (s := s) (w := w) (p := s9_p5 K B1 (s 3) (s 4) (s 7) (s 15) (s 16) (s 17) (s 56) (s 57) w) (q := s9_p5_den K (fun s w => B1 [s 3, s 4, s 15, s 16, s 17] w) s w) (fun B s w h => s9_p4_ok K B1 B s w @h) (by kernel_rfl) (by kernel_rfl) @h
def s9_p6 (K : Value → World → Prop) (B1 : List Value → World → Prop) (t3 t4 t7 t15 t16 t17 : Value) (w : World) : Prop :=
  fd 5 t7 (fun t53 w =>
  fd 0 t53 (fun t54 w =>
  ld1 t54 (fun t55 w =>
  lnS t55 (fun t56 w =>
  s9_p5 K B1 t3 t4 t7 t15 t16 t17 t56 (.int .i64 0) w) w) w) w) w
def s9_p6_den (K : Value → World → Prop) (M1 : (Nat → Value) → World → Prop) : (Nat → Value) → World → Prop := denL Try.prog [(cd (Try.f9.body.getD .skip) [1, 1, 1, 0, 1, 0, 0, 1, 1, 0, 0, 1, 1, 1, 1, 1, 1, 1, 0, 0])] (s9_p5_den K M1) (fun i => (bif Nat.beq i 1 then (s9_p2_den K M1) else (bif Nat.beq i 0 then (s9_p1_den K) else (fun _ _ => False)))) (s9_R K)
theorem s9_p6_ok (K : Value → World → Prop) (B1 : List Value → World → Prop) (s : Nat → Value) (w : World) (h : s9_p6 K B1 (s 3) (s 4) (s 7) (s 15) (s 16) (s 17) w) : Tr (s9_p6_den K (fun s w => B1 [s 3, s 4, s 15, s 16, s 17] w) s w) :=
  tr_simple (P := Try.prog) (codes := [(cd (Try.f9.body.getD .skip) [1, 1, 1, 0, 1, 0, 0, 1, 1, 0, 0, 1, 1, 1, 1, 1, 1, 1, 0, 0])]) (N := (fun s w => s9_p5 K B1 (s 3) (s 4) (s 7) (s 15) (s 16) (s 17) (s 56) (s 57) w)) (N' := (s9_p5_den K (fun s w => B1 [s 3, s 4, s 15, s 16, s 17] w))) (X := (fun i => (bif Nat.beq i 1 then (fun s w => s9_p2 K B1 (s 3) (s 4) (s 15) (s 16) (s 17) w) else (bif Nat.beq i 0 then (fun s w => s9_p1 K w) else (fun _ _ => False))))) (X' := (fun i => (bif Nat.beq i 1 then (s9_p2_den K (fun s w => B1 [s 3, s 4, s 15, s 16, s 17] w)) else (bif Nat.beq i 0 then (s9_p1_den K) else (fun _ _ => False))))) (R := s9_R K) (s := s) (w := w) (p := s9_p6 K B1 (s 3) (s 4) (s 7) (s 15) (s 16) (s 17) w) (q := s9_p6_den K (fun s w => B1 [s 3, s 4, s 15, s 16, s 17] w) s w) (fun s w h => s9_p5_ok K B1 s w @h) (fun i => (tr_bif (fun s w h => s9_p2_ok K B1 s w @h) (tr_bif (fun s w h => s9_p1_ok K s w @h) tr_id))) (by kernel_rfl) (by kernel_rfl) @h
def s9_p7 (K : Value → World → Prop) (B1 : List Value → World → Prop) (B2 : List Value → World → Prop) (t3 t4 t7 t15 t16 t17 t41 t42 : Value) (w : World) : Prop :=
  boI .lss t42 t41 (fun t43 w =>
  ifb t43
  (fd 2 t7 (fun t45 w =>
  ld1 t45 (fun t46 w =>
  ixs 1 t46 t42 (fun t48 w =>
  ld1 t48 (fun t49 w =>
  boI .xor t49 (.int .u8 255) (fun t50 w =>
  ixs 1 t46 t42 (fun t51 w =>
  st1 t51 t50 (fun w =>
  boI .add t42 (.int .i64 1) (fun t52 w =>
  B2 [t3, t4, t7, t15, t16, t17, t41, t52] w) w) w) w) w) w) w) w) w)
  (s9_p6 K B1 t3 t4 t7 t15 t16 t17 w)) w
def s9_p7_den (K : Value → World → Prop) (M1 : (Nat → Value) → World → Prop) (M2 : (Nat → Value) → World → Prop) : (Nat → Value) → World → Prop := denL Try.prog [(cd (Try.f9.body.getD .skip) [1, 1, 1, 0, 1, 0, 0, 1, 1, 0, 0, 1, 1, 1, 1, 1, 1, 0, 1, 0, 0, 0]), (cd (Try.f9.body.getD .skip) [1, 1, 1, 0, 1, 0, 0, 1, 1, 0, 0, 1, 1, 1, 1, 1, 1, 0, 1, 0, 0, 1, 0]), (cd (Try.f9.body.getD .skip) [1, 1, 1, 0, 1, 0, 0, 1, 1, 0, 0, 1, 1, 1, 1, 1, 1, 0, 1, 0, 0, 1, 1, 0]), (cd (Try.f9.body.getD .skip) [1, 1, 1, 0, 1, 0, 0, 1, 1, 0, 0, 1, 1, 1, 1, 1, 1, 0, 1, 0, 0, 1, 1, 1])] M2 (fun i => (bif Nat.beq i 2 then (s9_p6_den K M1) else (bif Nat.beq i 1 then (s9_p2_den K M1) else (bif Nat.beq i 0 then (s9_p1_den K) else (fun _ _ => False))))) (s9_R K)
theorem s9_p7_ok (K : Value → World → Prop) (B1 : List Value → World → Prop) (B2 : List Value → World → Prop) (s : Nat → Value) (w : World) (h : s9_p7 K B1 B2 (s 3) (s 4) (s 7) (s 15) (s 16) (s 17) (s 41) (s 42) w) : Tr (s9_p7_den K (fun s w => B1 [s 3, s 4, s 15, s 16, s 17] w) (fun s w => B2 [s 3, s 4, s 7, s 15, s 16, s 17, s 41, s 42] w) s w) :=
  tr_simple (P := Try.prog) (codes := [(cd (Try.f9.body.getD .skip) [1, 1, 1, 0, 1, 0, 0, 1, 1, 0, 0, 1, 1, 1, 1, 1, 1, 0, 1, 0, 0, 0]), (cd (Try.f9.body.getD .skip) [1, 1, 1, 0, 1, 0, 0, 1, 1, 0, 0, 1, 1, 1, 1, 1, 1, 0, 1, 0, 0, 1, 0]), (cd (Try.f9.body.getD .skip) [1, 1, 1, 0, 1, 0, 0, 1, 1, 0, 0, 1, 1, 1, 1, 1, 1, 0, 1, 0, 0, 1, 1, 0]), (cd (Try.f9.body.getD .skip) [1, 1, 1, 0, 1, 0, 0, 1, 1, 0, 0, 1, 1, 1, 1, 1, 1, 0, 1, 0, 0, 1, 1, 1])]) (N := (fun s w => B2 [s 3, s 4, s 7, s 15, s 16, s 17, s 41, s 42] w)) (N' := (fun s w => B2 [s 3, s 4, s 7, s 15, s 16, s 17, s 41, s 42] w)) (X := (fun i => (bif Nat.beq i 2 then (fun s w => s9_p6 K B1 (s 3) (s 4) (s 7) (s 15) (s 16) (s 17) w) else (bif Nat.beq i 1 then (fun s w => s9_p2 K B1 (s 3) (s 4) (s 15) (s 16) (s 17) w) else (bif Nat.beq i 0 then (fun s w => s9_p1 K w) else (fun _ _ => False)))))) (X' := (fun i => (bif Nat.beq i 2 then (s9_p6_den K (fun s w => B1 [s 3, s 4, s 15, s 16, s 17] w)) else (bif Nat.beq i 1 then (s9_p2_den K (fun s w => B1 [s 3, s 4, s 15, s 16, s 17] w)) else (bif Nat.beq i 0 then (s9_p1_den K) else (fun _ _ => False)))))) (R := s9_R K) (s := s) (w := w) (p := s9_p7 K B1 B2 (s 3) (s 4) (s 7) (s 15) (s 16) (s 17) (s 41) (s 42) w) (q := s9_p7_den K (fun s w => B1 [s 3, s 4, s 15, s 16, s 17] w) (fun s w => B2 [s 3, s 4, s 7, s 15, s 16, s 17, s 41, s 42] w) s w) tr_id (fun i => (tr_bif (fun s w h => s9_p6_ok K B1 s w @h) (tr_bif (fun s w h => s9_p2_ok K B1 s w @h) (tr_bif (fun s w h => s9_p1_ok K s w @h) tr_id)))) (by kernel_rfl) (by kernel_rfl) @h
def s9_p8_F (K : Value → World → Prop) (B1 : List Value → World → Prop) (B2 : List Value → World → Prop) (l : List Value) (w : World) : Prop :=
  match l with
  | [t3, t4, t7, t15, t16, t17, t41, t42] => s9_p7 K B1 B2 t3 t4 t7 t15 t16 t17 t41 t42 w
  | _ => False
theorem s9_p8_Fe {K : Value → World → Prop} {B1 : List Value → World → Prop} {B2 : List Value → World → Prop} {t3 t4 t7 t15 t16 t17 t41 t42 : Value} {w : World} : s9_p8_F K B1 B2 [t3, t4, t7, t15, t16, t17, t41, t42] w = s9_p7 K B1 B2 t3 t4 t7 t15 t16 t17 t41 t42 w := by kernel_rfl
def s9_p8 (K : Value → World → Prop) (B1 : List Value → World → Prop) (t3 t4 t7 t15 t16 t17 t41 t42 : Value) (w : World) : Prop :=
  LoopL (s9_p8_F K B1) [t3, t4, t7, t15, t16, t17, t41, t42] w
def s9_p8_den (K : Value → World → Prop) (M1 : (Nat → Value) → World → Prop) : (Nat → Value) → World → Prop := fun s w => LoopP (fun M2 s w => s9_p7_den K M1 M2 s w) s w
theorem s9_p8_ok (K : Value → World → Prop) (B1 : List Value → World → Prop) (s : Nat → Value) (w : World) (h : s9_p8 K B1 (s 3) (s 4) (s 7) (s 15) (s 16) (s 17) (s 41) (s 42) w) : Tr (s9_p8_den K (fun s w => B1 [s 3, s 4, s 15, s 16, s 17] w) s w) :=
  tr_loop (G := fun N' s w => s9_p7_den K (fun s w => B1 [s 3, s 4, s 15, s 16, s 17] w) N' s w) (F := s9_p8_F K B1) (sel := fun s => [s 3, s 4, s 7, s 15, s 16, s 17, s 41, s 42]) (s := s) (w := w) (p := s9_p8 K B1 (s 3) (s 4) (s 7) (s 15) (s 16) (s 17) (s 41) (s 42) w) (q := s9_p8_den K (fun s w => B1 [s 3, s 4, s 15, s 16, s 17] w) s w) (fun B s w h => s9_p7_ok K B1 B s w @h) (by kernel_rfl) (by kernel_rfl) @h
def s9_p9 (K : Value → World → Prop) (B1 : List Value → World → Prop) (t3 t4 t15 t16 t17 : Value) (w : World) : Prop :=
  ixs 8 t15 t17 (fun t19 w =>
  ldn 8 t19 (fun t20 w =>
  nw 34 #[(.int .i64 0), (.int .i64 0), (.slice none 0 0), (.int .i64 0), (.int .i64 0), (.slice none 0 0), (.int .i64 0), (.int .i64 0)] (fun t6 w =>
  stn 8 t6 t20 (fun w =>
  ldn 8 t6 (fun t21 w =>
  nw 34 #[(.int .i64 0), (.int .i64 0), (.slice none 0 0), (.int .i64 0), (.int .i64 0), (.slice none 0 0), (.int .i64 0), (.int .i64 0)] (fun t7 w =>
  stn 8 t7 t21 (fun w =>
  fd 2 t6 (fun t22 w =>
  ld1 t22 (fun t23 w =>
  cl Try.prog 21 #[t23] (fun t24 w =>
  fd 2 t7 (fun t25 w =>
  st1 t25 t24 (fun w =>
  bsq 3 [(.int .i64 0)] 0 [] (fun t26 w =>
  fd 5 t6 (fun t27 w =>
  fd 0 t27 (fun t28 w =>
  ld1 t28 (fun t29 w =>
  apq 3 [(.int .i64 0)] 8 t26 t29 (fun t30 w =>
  fd 5 t7 (fun t31 w =>
  fd 0 t31 (fun t32 w =>
  st1 t32 t30 (fun w =>
  ldn 8 t6 (fun t34 w =>
  cl Try.prog 14 #[t3, t34] (fun t35 w =>
  ldn 8 t7 (fun t37 w =>
  cl Try.prog 14 #[t4, t37] (fun t38 w =>
  fd 2 t7 (fun t39 w =>
  ld1 t39 (fun t40 w =>
  lnS t40 (fun t41 w =>
  s9_p8 K B1 t3 t4 t7 t15 t16 t17 t41 (.int .i64 0) w) w) w) w) w) w) w) w) w) w) w) w) w) w) w) w) w) w) w) w) w) w) w) w) w) w) w) w
def s9_p9_den (K : Value → World → Prop) (M1 : (Nat → Value) → World → Prop) : (Nat → Value) → World → Prop := denL Try.prog [(cd (Try.f9.body.getD .skip) [1, 1, 1, 0, 1, 0, 0, 1, 1, 0, 0, 0]), (cd (Try.f9.body.getD .skip) [1, 1, 1, 0, 1, 0, 0, 1, 1, 0, 0, 1, 0]), (cd (Try.f9.body.getD .skip) [1, 1, 1, 0, 1, 0, 0, 1, 1, 0, 0, 1, 1, 0]), (cd (Try.f9.body.getD .skip) [1, 1, 1, 0, 1, 0, 0, 1, 1, 0, 0, 1, 1, 1, 0]), (cd (Try.f9.body.getD .skip) [1, 1, 1, 0, 1, 0, 0, 1, 1, 0, 0, 1, 1, 1, 1, 0]), (cd (Try.f9.body.getD .skip) [1, 1, 1, 0, 1, 0, 0, 1, 1, 0, 0, 1, 1, 1, 1, 1, 0]), (cd (Try.f9.body.getD .skip) [1, 1, 1, 0, 1, 0, 0, 1, 1, 0, 0, 1, 1, 1, 1, 1, 1, 0, 0])] (s9_p8_den K M1) (fun i => (bif Nat.beq i 1 then (s9_p2_den K M1) else (bif Nat.beq i 0 then (s9_p1_den K) else (fun _ _ => False)))) (s9_R K)
theorem s9_p9_ok (K : Value → World → Prop) (B1 : List Value → World → Prop) (s : Nat → Value) (w : World) (h : s9_p9 K B1 (s 3) (s 4) (s 15) (s 16) (s 17) w) : Tr (s9_p9_den K (fun s w => B1 [s 3, s 4, s 15, s 16, s 17] w) s w) :=
  tr_simple (P := Try.prog) (codes := [(cd (Try.f9.body.getD .skip) [1, 1, 1, 0, 1, 0, 0, 1, 1, 0, 0, 0]), (cd (Try.f9.body.getD .skip) [1, 1, 1, 0, 1, 0, 0, 1, 1, 0, 0, 1, 0]), (cd (Try.f9.body.getD .skip) [1, 1, 1, 0, 1, 0, 0, 1, 1, 0, 0, 1, 1, 0]), (cd (Try.f9.body.getD .skip) [1, 1, 1, 0, 1, 0, 0, 1, 1, 0, 0, 1, 1, 1, 0]), (cd (Try.f9.body.getD .skip) [1, 1, 1, 0, 1, 0, 0, 1, 1, 0, 0, 1, 1, 1, 1, 0]), (cd (Try.f9.body.getD .skip) [1, 1, 1, 0, 1, 0, 0, 1, 1, 0, 0, 1, 1, 1, 1, 1, 0]), (cd (Try.f9.body.getD .skip) [1, 1, 1, 0, 1, 0, 0, 1, 1, 0, 0, 1, 1, 1, 1, 1, 1, 0, 0])]) (N := (fun s w => s9_p8 K B1 (s 3) (s 4) (s 7) (s 15) (s 16) (s 17) (s 41) (s 42) w)) (N' := (s9_p8_den K (fun s w => B1 [s 3, s 4, s 15, s 16, s 17] w))) (X := (fun i => (bif Nat.beq i 1 then (fun s w => s9_p2 K B1 (s 3) (s 4) (s 15) (s 16) (s 17) w) else (bif Nat.beq i 0 then (fun s w => s9_p1 K w) else (fun _ _ => False))))) (X' := (fun i => (bif Nat.beq i 1 then (s9_p2_den K (fun s w => B1 [s 3, s 4, s 15, s 16, s 17] w)) else (bif Nat.beq i 0 then (s9_p1_den K) else (fun _ _ => False))))) (R := s9_R K) (s := s) (w := w) (p := s9_p9 K B1 (s 3) (s 4) (s 15) (s 16) (s 17) w) (q := s9_p9_den K (fun s w => B1 [s 3, s 4, s 15, s 16, s 17] w) s w) (fun s w h => s9_p8_ok K B1 s w @h) (fun i => (tr_bif (fun s w h => s9_p2_ok K B1 s w @h) (tr_bif (fun s w h => s9_p1_ok K s w @h) tr_id))) (by kernel_rfl) (by kernel_rfl) @h
def s9_p10 (K : Value → World → Prop) (B1 : List Value → World → Prop) (t3 t4 t15 t16 t17 : Value) (w : World) : Prop :=
  boI .lss t17 t16 (fun t18 w =>
  ifb t18
  (s9_p9 K B1 t3 t4 t15 t16 t17 w)
  (s9_p1 K w)) w
def s9_p10_den (K : Value → World → Prop) (M1 : (Nat → Value) → World → Prop) : (Nat → Value) → World → Prop := denL Try.prog [(cd (Try.f9.body.getD .skip) [1, 1, 1, 0, 1, 0, 0, 0]), (cd (Try.f9.body.getD .skip) [1, 1, 1, 0, 1, 0, 0, 1, 0])] (s9_p9_den K M1) (fun i => (bif Nat.beq i 0 then (s9_p1_den K) else (fun _ _ => False))) (s9_R K)
theorem s9_p10_ok (K : Value → World → Prop) (B1 : List Value → World → Prop) (s : Nat → Value) (w : World) (h : s9_p10 K B1 (s 3) (s 4) (s 15) (s 16) (s 17) w) : Tr (s9_p10_den K (fun s w => B1 [s 3, s 4, s 15, s 16, s 17] w) s w) :=
  tr_simple (P := Try.prog) (codes := [(cd (Try.f9.body.getD .skip) [1, 1, 1, 0, 1, 0, 0, 0]), (cd (Try.f9.body.getD .skip) [1, 1, 1, 0, 1, 0, 0, 1, 0])]) (N := (fun s w => s9_p9 K B1 (s 3) (s 4) (s 15) (s 16) (s 17) w)) (N' := (s9_p9_den K (fun s w => B1 [s 3, s 4, s 15, s 16, s 17] w))) (X := (fun i => (bif Nat.beq i 0 then (fun s w => s9_p1 K w) else (fun _ _ => False)))) (X' := (fun i => (bif Nat.beq i 0 then (s9_p1_den K) else (fun _ _ => False)))) (R := s9_R K) (s := s) (w := w) (p := s9_p10 K B1 (s 3) (s 4) (s 15) (s 16) (s 17) w) (q := s9_p10_den K (fun s w => B1 [s 3, s 4, s 15, s 16, s 17] w) s w) (fun s w h => s9_p9_ok K B1 s w @h) (fun i => (tr_bif (fun s w h => s9_p1_ok K s w @h) tr_id)) (by kernel_rfl) (by kernel_rfl) @h
def s9_p11_F (K : Value → World → Prop) (B1 : List Value → World → Prop) (l : List Value) (w : World) : Prop :=
  match l with
  | [t3, t4, t15, t16, t17] => s9_p10 K B1 t3 t4 t15 t16 t17 w
  | _ => False
theorem s9_p11_Fe {K : Value → World → Prop} {B1 : List Value → World → Prop} {t3 t4 t15 t16 t17 : Value} {w : World} : s9_p11_F K B1 [t3, t4, t15, t16, t17] w = s9_p10 K B1 t3 t4 t15 t16 t17 w := by kernel_rfl
def s9_p11 (K : Value → World → Prop) (t3 t4 t15 t16 t17 : Value) (w : World) : Prop :=
  LoopL (s9_p11_F K) [t3, t4, t15, t16, t17] w
def s9_p11_den (K : Value → World → Prop) : (Nat → Value) → World → Prop := fun s w => LoopP (fun M1 s w => s9_p10_den K M1 s w) s w
theorem s9_p11_ok (K : Value → World → Prop) (s : Nat → Value) (w : World) (h : s9_p11 K (s 3) (s 4) (s 15) (s 16) (s 17) w) : Tr (s9_p11_den K s w) :=
  tr_loop (G := fun N' s w => s9_p10_den K N' s w) (F := s9_p11_F K) (sel := fun s => [s 3, s 4, s 15, s 16, s 17]) (s := s) (w := w) (p := s9_p11 K (s 3) (s 4) (s 15) (s 16) (s 17) w) (q := s9_p11_den K s w) (fun B s w h => s9_p10_ok K B s w @h) (by kernel_rfl) (by kernel_rfl) @h
def s9_p12 (K : Value → World → Prop) (t0 : Value) (w : World) : Prop :=
  cl Try.prog 11 #[t0] (fun t11 w =>
  un .not t11 (fun t12 w =>
  ifb t12
  (K (.bool true) w)
  (cl Try.prog 12 #[] (fun t13 w =>
  cl Try.prog 12 #[] (fun t14 w =>
  lnS t0 (fun t16 w =>
  s9_p11 K t13 t14 t0 t16 (.int .i64 0) w) w) w) w)) w) w
def s9_p12_den (K : Value → World → Prop) : (Nat → Value) → World → Prop := denL Try.prog [(cd (Try.f9.body.getD .skip) [0]), (cd (Try.f9.body.getD .skip) [1, 0, 0]), (cd (Try.f9.body.getD .skip) [1, 0, 1]), (cd (Try.f9.body.getD .skip) [1, 1, 0]), (cd (Try.f9.body.getD .skip) [1, 1, 1, 0, 0])] (s9_p11_den K) (fun i => (fun _ _ => False)) (s9_R K)
theorem s9_p12_ok (K : Value → World → Prop) (s : Nat → Value) (w : World) (h : s9_p12 K (s 0) w) : Tr (s9_p12_den K s w) :=
  tr_simple (P := Try.prog) (codes := [(cd (Try.f9.body.getD .skip) [0]), (cd (Try.f9.body.getD .skip) [1, 0, 0]), (cd (Try.f9.body.getD .skip) [1, 0, 1]), (cd (Try.f9.body.getD .skip) [1, 1, 0]), (cd (Try.f9.body.getD .skip) [1, 1, 1, 0, 0])]) (N := (fun s w => s9_p11 K (s 3) (s 4) (s 15) (s 16) (s 17) w)) (N' := (s9_p11_den K)) (X := (fun i => (fun _ _ => False))) (X' := (fun i => (fun _ _ => False))) (R := s9_R K) (s := s) (w := w) (p := s9_p12 K (s 0) w) (q := s9_p12_den K s w) (fun s w h => s9_p11_ok K s w @h) (fun i => tr_id) (by kernel_rfl) (by kernel_rfl) @h
/-- the call, from the text -/
theorem c9 (t0 : Value) {K : Value → World → Prop} {w : World} (h : s9_p12 K t0 w) : cl Try.prog 9 #[t0] K w :=
  calls_of_tr (c := (Try.f9.body.getD .skip)) (fn := Try.f9) (q := s9_p12_den K (st0 #[t0]) w) Try.func9 (by kernel_rfl) (by kernel_rfl) (Nat.le_of_ble_eq_true (by kernel_rfl)) (by kernel_rfl) (by kernel_rfl) (s9_p12_ok K (st0 #[t0]) w @h)

/-! ### function 10 : e2e.disklaw.GeometryIsChecked -/
def s10_R (K : Value → World → Prop) (s : Nat → Value) (w : World) : Prop := retv Try.prog s Try.f10.results.toList (fun vs => K (pack vs) w) w
def s10_p1 (K : Value → World → Prop) (w : World) : Prop :=
  K (.bool true) w
def s10_p1_den (K : Value → World → Prop) : (Nat → Value) → World → Prop := denL Try.prog [(cd (Try.f10.body.getD .skip) [1, 1, 1, 1, 1, 0]), (cd (Try.f10.body.getD .skip) [1, 1, 1, 1, 1, 1])] (fun _ _ => False) (fun i => (fun _ _ => False)) (s10_R K)
theorem s10_p1_ok (K : Value → World → Prop) (s : Nat → Value) (w : World) (h : s10_p1 K w) : Tr (s10_p1_den K s w) :=
  tr_simple (P := Try.prog) (codes := [(cd (Try.f10.body.getD .skip) [1, 1, 1, 1, 1, 0]), (cd (Try.f10.body.getD .skip) [1, 1, 1, 1, 1, 1])]) (N := (fun _ _ => False)) (N' := (fun _ _ => False)) (X := (fun i => (fun _ _ => False))) (X' := (fun i => (fun _ _ => False))) (R := s10_R K) (s := s) (w := w) (p := s10_p1 K w) (q := s10_p1_den K s w) tr_id (fun i => tr_id) (by kernel_rfl) (by kernel_rfl) @h
def s10_p2 (K : Value → World → Prop) (B1 : List Value → World → Prop) (t42 t43 t44 : Value) (w : World) : Prop :=
  boI .add t44 (.int .i64 1) (fun t65 w =>
  B1 [t42, t43, t65] w) w
def s10_p2_den (K : Value → World → Prop) (M1 : (Nat → Value) → World → Prop) : (Nat → Value) → World → Prop := denL Try.prog [(cd (Try.f10.body.getD .skip) [1, 1, 1, 1, 0, 1, 0, 0, 1, 1, 1])] M1 (fun i => (bif Nat.beq i 2 then (s10_p1_den K) else (fun _ _ => False))) (s10_R K)
theorem s10_p2_ok (K : Value → World → Prop) (B1 : List Value → World → Prop) (s : Nat → Value) (w : World) (h : s10_p2 K B1 (s 42) (s 43) (s 44) w) : Tr (s10_p2_den K (fun s w => B1 [s 42, s 43, s 44] w) s w) :=
  tr_simple (P := Try.prog) (codes := [(cd (Try.f10.body.getD .skip) [1, 1, 1, 1, 0, 1, 0, 0, 1, 1, 1])]) (N := (fun s w => B1 [s 42, s 43, s 44] w)) (N' := (fun s w => B1 [s 42, s 43, s 44] w)) (X := (fun i => (bif Nat.beq i 2 then (fun s w => s10_p1 K w) else (fun _ _ => False)))) (X' := (fun i => (bif Nat.beq i 2 then (s10_p1_den K) else (fun _ _ => False)))) (R := s10_R K) (s := s) (w := w) (p := s10_p2 K B1 (s 42) (s 43) (s 44) w) (q := s10_p2_den K (fun s w => B1 [s 42, s 43, s 44] w) s w) tr_id (fun i => (tr_bif (fun s w h => s10_p1_ok K s w @h) tr_id)) (by kernel_rfl) (by kernel_rfl) @h
def s10_p3 (K : Value → World → Prop) (B1 : List Value → World → Prop) (t42 t43 t44 t64 : Value) (w : World) : Prop :=
  ifb t64
  (K (.bool false) w)
  (s10_p2 K B1 t42 t43 t44 w)
def s10_p3_den (K : Value → World → Prop) (M1 : (Nat → Value) → World → Prop) : (Nat → Value) → World → Prop := denL Try.prog [(cd (Try.f10.body.getD .skip) [1, 1, 1, 1, 0, 1, 0, 0, 1, 1, 0, 0, 1, 1, 1])] (s10_p2_den K M1) (fun i => (bif Nat.beq i 3 then (s10_p2_den K M1) else (bif Nat.beq i 2 then (s10_p1_den K) else (fun _ _ => False)))) (s10_R K)
theorem s10_p3_ok (K : Value → World → Prop) (B1 : List Value → World → Prop) (s : Nat → Value) (w : World) (h : s10_p3 K B1 (s 42) (s 43) (s 44) (s 64) w) : Tr (s10_p3_den K (fun s w => B1 [s 42, s 43, s 44] w) s w) :=
  tr_simple (P := Try.prog) (codes := [(cd (Try.f10.body.getD .skip) [1, 1, 1, 1, 0, 1, 0, 0, 1, 1, 0, 0, 1, 1, 1])]) (N := (fun s w => s10_p2 K B1 (s 42) (s 43) (s 44) w)) (N' := (s10_p2_den K (fun s w => B1 [s 42, s 43, s 44] w))) (X := (fun i => (bif Nat.beq i 3 then (fun s w => s10_p2 K B1 (s 42) (s 43) (s 44) w) else (bif Nat.beq i 2 then (fun s w => s10_p1 K w) else (fun _ _ => False))))) (X' := (fun i => (bif Nat.beq i 3 then (s10_p2_den K (fun s w => B1 [s 42, s 43, s 44] w)) else (bif Nat.beq i 2 then (s10_p1_den K) else (fun _ _ => False))))) (R := s10_R K) (s := s) (w := w) (p := s10_p3 K B1 (s 42) (s 43) (s 44) (s 64) w) (q := s10_p3_den K (fun s w => B1 [s 42, s 43, s 44] w) s w) (fun s w h => s10_p2_ok K B1 s w @h) (fun i => (tr_bif (fun s w h => s10_p2_ok K B1 s w @h) (tr_bif (fun s w h => s10_p1_ok K s w @h) tr_id))) (by kernel_rfl) (by kernel_rfl) @h
def s10_p4_d (K : Value → World → Prop) (B1 : List Value → World → Prop) (t8 t9 t10 t42 t43 t44 : Value) (w0 w : World) : Prop :=
  boP .eql t9 (.pointer none) (fun t54 _ =>
  gd t54 false (fun K w => K t10 w) (fun t56 _ =>
  gd t54 false (boF Try.prog true .neq t56 .nilIface) (fun t57 _ =>
  pk t54 (.bool true) t57 (fun t58 _ =>
  gd t58 false (fun K w => K t9 w) (fun t60 _ =>
  gd t58 false (ldn 2 t8) (fun t62 _ =>
  gd t58 false (cl Try.prog 35 #[t60]) (fun t61 w =>
  Below w0.heap.size w0 w ∧
  gd t58 false (bor Try.prog .neq 65 (.tmp 61) (.tmp 62) t61 t62) (fun t63 w =>
  pk t58 (.bool true) t63 (fun t64 w =>
  s10_p3 K B1 t42 t43 t44 t64 w) w) w) w) w0) w0) w0) w0) w0) w0
def s10_p4 (K : Value → World → Prop) (B1 : List Value → World → Prop) (t8 t9 t10 t42 t43 t44 : Value) (w : World) : Prop := s10_p4_d K B1 t8 t9 t10 t42 t43 t44 (drw w) (drw w)
def s10_p4_den (K : Value → World → Prop) (M1 : (Nat → Value) → World → Prop) : (Nat → Value) → World → Prop := denL Try.prog [(cd (Try.f10.body.getD .skip) [1, 1, 1, 1, 0, 1, 0, 0, 1, 1, 0, 0, 1, 1, 0])] (s10_p3_den K M1) (fun i => (bif Nat.beq i 3 then (s10_p2_den K M1) else (bif Nat.beq i 2 then (s10_p1_den K) else (fun _ _ => False)))) (s10_R K)
theorem s10_p4_ok (K : Value → World → Prop) (B1 : List Value → World → Prop) (s : Nat → Value) (w : World) (h : s10_p4 K B1 (s 8) (s 9) (s 10) (s 42) (s 43) (s 44) w) : Tr (s10_p4_den K (fun s w => B1 [s 42, s 43, s 44] w) s w) :=
  tr_draw (P := Try.prog) (ops := (ro (cd (Try.f10.body.getD .skip) [1, 1, 1, 1, 0, 1, 0, 0, 1, 1, 0, 0, 1, 1, 0]))) (ms := [0, 1, 3, 7, 15, 31, 63, 127, 255, 127, 1023, 2047]) (cs := [0, 1, 2, 3, 4, 5, 6, 7, 9]) (N := (fun s w => s10_p3 K B1 (s 42) (s 43) (s 44) (s 64) w)) (N' := (s10_p3_den K (fun s w => B1 [s 42, s 43, s 44] w))) (s := s) (w := w) (p := s10_p4 K B1 (s 8) (s 9) (s 10) (s 42) (s 43) (s 44) w) (q := s10_p4_den K (fun s w => B1 [s 42, s 43, s 44] w) s w) (by kernel_rfl) (by kernel_rfl) (fun s w h => s10_p3_ok K B1 s w @h) (by kernel_rfl) (by kernel_rfl) @h
def s10_p5 (K : Value → World → Prop) (B1 : List Value → World → Prop) (t42 t43 t44 : Value) (w : World) : Prop :=
  ixs 2 t42 t44 (fun t46 w =>
  ldn 2 t46 (fun t47 w =>
  nw 65 #[(.int .i64 0), (.int .i64 0)] (fun t8 w =>
  stn 2 t8 t47 (fun w =>
  ldn 2 t8 (fun t49 w =>
  cl Try.prog 34 #[t49] (fun t50 w =>
  exq t50 0 (fun t51 w =>
  exq t50 1 (fun t52 w =>
  s10_p4 K B1 t8 t51 t52 t42 t43 t44 w) w) w) w) w) w) w) w) w
def s10_p5_den (K : Value → World → Prop) (M1 : (Nat → Value) → World → Prop) : (Nat → Value) → World → Prop := denL Try.prog [(cd (Try.f10.body.getD .skip) [1, 1, 1, 1, 0, 1, 0, 0, 1, 1, 0, 0, 0]), (cd (Try.f10.body.getD .skip) [1, 1, 1, 1, 0, 1, 0, 0, 1, 1, 0, 0, 1, 0])] (s10_p4_den K M1) (fun i => (bif Nat.beq i 3 then (s10_p2_den K M1) else (bif Nat.beq i 2 then (s10_p1_den K) else (fun _ _ => False)))) (s10_R K)
theorem s10_p5_ok (K : Value → World → Prop) (B1 : List Value → World → Prop) (s : Nat → Value) (w : World) (h : s10_p5 K B1 (s 42) (s 43) (s 44) w) : Tr (s10_p5_den K (fun s w => B1 [s 42, s 43, s 44] w) s w) :=
  tr_simple (P := Try.prog) (codes := [(cd (Try.f10.body.getD .skip) [1, 1, 1, 1, 0, 1, 0, 0, 1, 1, 0, 0, 0]), (cd (Try.f10.body.getD .skip) [1, 1, 1, 1, 0, 1, 0, 0, 1, 1, 0, 0, 1, 0])]) (N := (fun s w => s10_p4 K B1 (s 8) (s 9) (s 10) (s 42) (s 43) (s 44) w)) (N' := (s10_p4_den K (fun s w => B1 [s 42, s 43, s 44] w))) (X := (fun i => (bif Nat.beq i 3 then (fun s w => s10_p2 K B1 (s 42) (s 43) (s 44) w) else (bif Nat.beq i 2 then (fun s w => s10_p1 K w) else (fun _ _ => False))))) (X' := (fun i => (bif Nat.beq i 3 then (s10_p2_den K (fun s w => B1 [s 42, s 43, s 44] w)) else (bif Nat.beq i 2 then (s10_p1_den K) else (fun _ _ => False))))) (R := s10_R K) (s := s) (w := w) (p := s10_p5 K B1 (s 42) (s 43) (s 44) w) (q := s10_p5_den K (fun s w => B1 [s 42, s 43, s 44] w) s w) (fun s w h => s10_p4_ok K B1 s w @h) (fun i => (tr_bif (fun s w h => s10_p2_ok K B1 s w @h) (tr_bif (fun s w h => s10_p1_ok K s w @h) tr_id))) (by kernel_rfl) (by kernel_rfl) @h
def s10_p6 (K : Value → World → Prop) (B1 : List Value → World → Prop) (t42 t43 t44 : Value) (w : World) : Prop :=
  boI .lss t44 t43 (fun t45 w =>
  ifb t45
  (s10_p5 K B1 t42 t43 t44 w)
  (s10_p1 K w)) w
def s10_p6_den (K : Value → World → Prop) (M1 : (Nat → Value) → World → Prop) : (Nat → Value) → World → Prop := denL Try.prog [(cd (Try.f10.body.getD .skip) [1, 1, 1, 1, 0, 1, 0, 0, 0]), (cd (Try.f10.body.getD .skip) [1, 1, 1, 1, 0, 1, 0, 0, 1, 0])] (s10_p5_den K M1) (fun i => (bif Nat.beq i 2 then (s10_p1_den K) else (fun _ _ => False))) (s10_R K)
theorem s10_p6_ok (K : Value → World → Prop) (B1 : List Value → World → Prop) (s : Nat → Value) (w : World) (h : s10_p6 K B1 (s 42) (s 43) (s 44) w) : Tr (s10_p6_den K (fun s w => B1 [s 42, s 43, s 44] w) s w) :=
  tr_simple (P := Try.prog) (codes := [(cd (Try.f10.body.getD .skip) [1, 1, 1, 1, 0, 1, 0, 0, 0]), (cd (Try.f10.body.getD .skip) [1, 1, 1, 1, 0, 1, 0, 0, 1, 0])]) (N := (fun s w => s10_p5 K B1 (s 42) (s 43) (s 44) w)) (N' := (s10_p5_den K (fun s w => B1 [s 42, s 43, s 44] w))) (X := (fun i => (bif Nat.beq i 2 then (fun s w => s10_p1 K w) else (fun _ _ => False)))) (X' := (fun i => (bif Nat.beq i 2 then (s10_p1_den K) else (fun _ _ => False)))) (R := s10_R K) (s := s) (w := w) (p := s10_p6 K B1 (s 42) (s 43) (s 44) w) (q := s10_p6_den K (fun s w => B1 [s 42, s 43, s 44] w) s w) (fun s w h => s10_p5_ok K B1 s w @h) (fun i => (tr_bif (fun s w h => s10_p1_ok K s w @h) tr_id)) (by kernel_rfl) (by kernel_rfl) @h
def s10_p7_F (K : Value → World → Prop) (B1 : List Value → World → Prop) (l : List Value) (w : World) : Prop :=
  match l with
  | [t42, t43, t44] => s10_p6 K B1 t42 t43 t44 w
  | _ => False
theorem s10_p7_Fe {K : Value → World → Prop} {B1 : List Value → World → Prop} {t42 t43 t44 : Value} {w : World} : s10_p7_F K B1 [t42, t43, t44] w = s10_p6 K B1 t42 t43 t44 w := by kernel_rfl
def s10_p7 (K : Value → World → Prop) (t42 t43 t44 : Value) (w : World) : Prop :=
  LoopL (s10_p7_F K) [t42, t43, t44] w
def s10_p7_den (K : Value → World → Prop) : (Nat → Value) → World → Prop := fun s w => LoopP (fun M1 s w => s10_p6_den K M1 s w) s w
theorem s10_p7_ok (K : Value → World → Prop) (s : Nat → Value) (w : World) (h : s10_p7 K (s 42) (s 43) (s 44) w) : Tr (s10_p7_den K s w) :=
  tr_loop (G := fun N' s w => s10_p6_den K N' s w) (F := s10_p7_F K) (sel := fun s => [s 42, s 43, s 44]) (s := s) (w := w) (p := s10_p7 K (s 42) (s 43) (s 44) w) (q := s10_p7_den K s w) (fun B s w h => s10_p6_ok K B s w @h) (by kernel_rfl) (by kernel_rfl) @h
def s10_p8 (K : Value → World → Prop) (w : World) : Prop :=
  bdq [(.int .i64 0), (.int .i64 0)] [(some (0, 1), (.int .i64 1)), (some (1, 1), (.int .i64 1))] (fun t38 w =>
  bdq [(.int .i64 0), (.int .i64 0)] [(some (0, 1), (.int .i64 512)), (some (1, 1), (.int .i64 64))] (fun t39 w =>
  bdq [(.int .i64 0), (.int .i64 0)] [(some (0, 1), (.int .i64 3)), (some (1, 1), (.int .i64 7))] (fun t40 w =>
  bsq 65 [(.int .i64 0), (.int .i64 0)] 3 [(some (0, 2), t38), (some (2, 2), t39), (some (4, 2), t40)] (fun t41 w =>
  lnS t41 (fun t43 w =>
  s10_p7 K t41 t43 (.int .i64 0) w) w) w) w) w) w
def s10_p8_den (K : Value → World → Prop) : (Nat → Value) → World → Prop := denL Try.prog [(cd (Try.f10.body.getD .skip) [1, 1, 1, 0]), (cd (Try.f10.body.getD .skip) [1, 1, 1, 1, 0, 0])] (s10_p7_den K) (fun i => (fun _ _ => False)) (s10_R K)
theorem s10_p8_ok (K : Value → World → Prop) (s : Nat → Value) (w : World) (h : s10_p8 K w) : Tr (s10_p8_den K s w) :=
  tr_simple (P := Try.prog) (codes := [(cd (Try.f10.body.getD .skip) [1, 1, 1, 0]), (cd (Try.f10.body.getD .skip) [1, 1, 1, 1, 0, 0])]) (N := (fun s w => s10_p7 K (s 42) (s 43) (s 44) w)) (N' := (s10_p7_den K)) (X := (fun i => (fun _ _ => False))) (X' := (fun i => (fun _ _ => False))) (R := s10_R K) (s := s) (w := w) (p := s10_p8 K w) (q := s10_p8_den K s w) (fun s w h => s10_p7_ok K s w @h) (fun i => tr_id) (by kernel_rfl) (by kernel_rfl) @h
def s10_p9 (K : Value → World → Prop) (B1 : List Value → World → Prop) (t19 t20 t21 : Value) (w : World) : Prop :=
  boI .lss t21 t20 (fun t22 w =>
  ifb t22
  (ixs 2 t19 t21 (fun t23 w =>
  ldn 2 t23 (fun t24 w =>
  nw 65 #[(.int .i64 0), (.int .i64 0)] (fun t3 w =>
  stn 2 t3 t24 (fun w =>
  ldn 2 t3 (fun t26 w =>
  cl Try.prog 34 #[t26] (fun t27 w =>
  exq t27 0 (fun t28 w =>
  exq t27 1 (fun t29 w =>
  boP .neq t28 (.pointer none) (fun t31 w =>
  gd t31 false (fun K w => K t29 w) (fun t33 w =>
  gd t31 false (cl Try.prog 31 #[t33]) (fun t34 w =>
  gd t31 false (boI .neq t34 (.int .i64 6)) (fun t35 w =>
  pk t31 (.bool true) t35 (fun t36 w =>
  ifb t36
  (K (.bool false) w)
  (boI .add t21 (.int .i64 1) (fun t37 w =>
  B1 [t19, t20, t37] w) w)) w) w) w) w) w) w) w) w) w) w) w) w) w)
  (s10_p8 K w)) w
def s10_p9_den (K : Value → World → Prop) (M1 : (Nat → Value) → World → Prop) : (Nat → Value) → World → Prop := denL Try.prog [(cd (Try.f10.body.getD .skip) [1, 1, 0, 1, 0, 0, 0]), (cd (Try.f10.body.getD .skip) [1, 1, 0, 1, 0, 0, 1, 0]), (cd (Try.f10.body.getD .skip) [1, 1, 0, 1, 0, 0, 1, 1, 0]), (cd (Try.f10.body.getD .skip) [1, 1, 0, 1, 0, 0, 1, 1, 1])] M1 (fun i => (bif Nat.beq i 0 then (s10_p8_den K) else (fun _ _ => False))) (s10_R K)
theorem s10_p9_ok (K : Value → World → Prop) (B1 : List Value → World → Prop) (s : Nat → Value) (w : World) (h : s10_p9 K B1 (s 19) (s 20) (s 21) w) : Tr (s10_p9_den K (fun s w => B1 [s 19, s 20, s 21] w) s w) :=
  tr_simple (P := Try.prog) (codes := [(cd (Try.f10.body.getD .skip) [1, 1, 0, 1, 0, 0, 0]), (cd (Try.f10.body.getD .skip) [1, 1, 0, 1, 0, 0, 1, 0]), (cd (Try.f10.body.getD .skip) [1, 1, 0, 1, 0, 0, 1, 1, 0]), (cd (Try.f10.body.getD .skip) [1, 1, 0, 1, 0, 0, 1, 1, 1])]) (N := (fun s w => B1 [s 19, s 20, s 21] w)) (N' := (fun s w => B1 [s 19, s 20, s 21] w)) (X := (fun i => (bif Nat.beq i 0 then (fun s w => s10_p8 K w) else (fun _ _ => False)))) (X' := (fun i => (bif Nat.beq i 0 then (s10_p8_den K) else (fun _ _ => False)))) (R := s10_R K) (s := s) (w := w) (p := s10_p9 K B1 (s 19) (s 20) (s 21) w) (q := s10_p9_den K (fun s w => B1 [s 19, s 20, s 21] w) s w) tr_id (fun i => (tr_bif (fun s w h => s10_p8_ok K s w @h) tr_id)) (by kernel_rfl) (by kernel_rfl) @h
def s10_p10_F (K : Value → World → Prop) (B1 : List Value → World → Prop) (l : List Value) (w : World) : Prop :=
  match l with
  | [t19, t20, t21] => s10_p9 K B1 t19 t20 t21 w
  | _ => False
theorem s10_p10_Fe {K : Value → World → Prop} {B1 : List Value → World → Prop} {t19 t20 t21 : Value} {w : World} : s10_p10_F K B1 [t19, t20, t21] w = s10_p9 K B1 t19 t20 t21 w := by kernel_rfl
def s10_p10 (K : Value → World → Prop) (t19 t20 t21 : Value) (w : World) : Prop :=
  LoopL (s10_p10_F K) [t19, t20, t21] w
def s10_p10_den (K : Value → World → Prop) : (Nat → Value) → World → Prop := fun s w => LoopP (fun M1 s w => s10_p9_den K M1 s w) s w
theorem s10_p10_ok (K : Value → World → Prop) (s : Nat → Value) (w : World) (h : s10_p10 K (s 19) (s 20) (s 21) w) : Tr (s10_p10_den K s w) :=
  tr_loop (G := fun N' s w => s10_p9_den K N' s w) (F := s10_p10_F K) (sel := fun s => [s 19, s 20, s 21]) (s := s) (w := w) (p := s10_p10 K (s 19) (s 20) (s 21) w) (q := s10_p10_den K s w) (fun B s w h => s10_p9_ok K B s w @h) (by kernel_rfl) (by kernel_rfl) @h
def s10_p11 (K : Value → World → Prop) (w : World) : Prop :=
  bdq [(.int .i64 0), (.int .i64 0)] [(some (0, 1), (.int .i64 0)), (some (1, 1), (.int .i64 1))] (fun t11 w =>
  bdq [(.int .i64 0), (.int .i64 0)] [(some (0, 1), (.int .i64 1)), (some (1, 1), (.int .i64 0))] (fun t12 w =>
  bdq [(.int .i64 0), (.int .i64 0)] [(some (0, 1), (.int .i64 (-1))), (some (1, 1), (.int .i64 4))] (fun t13 w =>
  bdq [(.int .i64 0), (.int .i64 0)] [(some (0, 1), (.int .i64 4)), (some (1, 1), (.int .i64 (-1)))] (fun t14 w =>
  bdq [(.int .i64 0), (.int .i64 0)] [(some (0, 1), (.int .i64 65537)), (some (1, 1), (.int .i64 1))] (fun t15 w =>
  bdq [(.int .i64 0), (.int .i64 0)] [(some (0, 1), (.int .i64 1)), (some (1, 1), (.int .i64 16777217))] (fun t16 w =>
  bdq [(.int .i64 0), (.int .i64 0)] [(some (0, 1), (.int .i64 65536)), (some (1, 1), (.int .i64 16385))] (fun t17 w =>
  bsq 65 [(.int .i64 0), (.int .i64 0)] 7 [(some (0, 2), t11), (some (2, 2), t12), (some (4, 2), t13), (some (6, 2), t14), (some (8, 2), t15), (some (10, 2), t16), (some (12, 2), t17)] (fun t18 w =>
  lnS t18 (fun t20 w =>
  s10_p10 K t18 t20 (.int .i64 0) w) w) w) w) w) w) w) w) w) w
def s10_p11_den (K : Value → World → Prop) : (Nat → Value) → World → Prop := denL Try.prog [(cd (Try.f10.body.getD .skip) [0]), (cd (Try.f10.body.getD .skip) [1, 0]), (cd (Try.f10.body.getD .skip) [1, 1, 0, 0])] (s10_p10_den K) (fun i => (fun _ _ => False)) (s10_R K)
theorem s10_p11_ok (K : Value → World → Prop) (s : Nat → Value) (w : World) (h : s10_p11 K w) : Tr (s10_p11_den K s w) :=
  tr_simple (P := Try.prog) (codes := [(cd (Try.f10.body.getD .skip) [0]), (cd (Try.f10.body.getD .skip) [1, 0]), (cd (Try.f10.body.getD .skip) [1, 1, 0, 0])]) (N := (fun s w => s10_p10 K (s 19) (s 20) (s 21) w)) (N' := (s10_p10_den K)) (X := (fun i => (fun _ _ => False))) (X' := (fun i => (fun _ _ => False))) (R := s10_R K) (s := s) (w := w) (p := s10_p11 K w) (q := s10_p11_den K s w) (fun s w h => s10_p10_ok K s w @h) (fun i => tr_id) (by kernel_rfl) (by kernel_rfl) @h
/-- the call, from the text -/
theorem c10 {K : Value → World → Prop} {w : World} (h : s10_p11 K  w) : cl Try.prog 10 #[] K w :=
  calls_of_tr (c := (Try.f10.body.getD .skip)) (fn := Try.f10) (q := s10_p11_den K (st0 #[]) w) Try.func10 (by kernel_rfl) (by kernel_rfl) (Nat.le_of_ble_eq_true (by kernel_rfl)) (by kernel_rfl) (by kernel_rfl) (s10_p11_ok K (st0 #[]) w @h)

/-! ### function 11 : e2e.disklaw.zzSmall1 -/
def s11_R (K : Value → World → Prop) (s : Nat → Value) (w : World) : Prop := retv Try.prog s Try.f11.results.toList (fun vs => K (pack vs) w) w
def s11_p1 (K : Value → World → Prop) (w : World) : Prop :=
  K (.bool true) w
def s11_p1_den (K : Value → World → Prop) : (Nat → Value) → World → Prop := denL Try.prog [(cd (Try.f11.body.getD .skip) [1, 1, 1, 1, 0]), (cd (Try.f11.body.getD .skip) [1, 1, 1, 1, 1])] (fun _ _ => False) (fun i => (fun _ _ => False)) (s11_R K)
theorem s11_p1_ok (K : Value → World → Prop) (s : Nat → Value) (w : World) (h : s11_p1 K w) : Tr (s11_p1_den K s w) :=
  tr_simple (P := Try.prog) (codes := [(cd (Try.f11.body.getD .skip) [1, 1, 1, 1, 0]), (cd (Try.f11.body.getD .skip) [1, 1, 1, 1, 1])]) (N := (fun _ _ => False)) (N' := (fun _ _ => False)) (X := (fun i => (fun _ _ => False))) (X' := (fun i => (fun _ _ => False))) (R := s11_R K) (s := s) (w := w) (p := s11_p1 K w) (q := s11_p1_den K s w) tr_id (fun i => tr_id) (by kernel_rfl) (by kernel_rfl) @h
def s11_p2 (K : Value → World → Prop) (B1 : List Value → World → Prop) (t0 t3 t4 : Value) (w : World) : Prop :=
  lnS t0 (fun t11 w =>
  boI .lss t4 t11 (fun t12 w =>
  ifb t12
  (ixs 8 t0 t4 (fun t18 w =>
  fd 2 t18 (fun t19 w =>
  ld1 t19 (fun t20 w =>
  lnS t20 (fun t21 w =>
  boI .add t3 t21 (fun t22 w =>
  boI .gtr t22 (.int .i64 65536) (fun t24 w =>
  ifb t24
  (K (.bool false) w)
  (ixs 8 t0 t4 (fun t28 w =>
  fd 5 t28 (fun t29 w =>
  fd 0 t29 (fun t30 w =>
  ld1 t30 (fun t31 w =>
  lnS t31 (fun t32 w =>
  boI .add t22 t32 (fun t33 w =>
  boI .gtr t33 (.int .i64 65536) (fun t35 w =>
  ifb t35
  (K (.bool false) w)
  (boI .add t4 (.int .i64 1) (fun t14 w =>
  B1 [t0, t33, t14] w) w)) w) w) w) w) w) w) w)) w) w) w) w) w) w)
  (s11_p1 K w)) w) w
def s11_p2_den (K : Value → World → Prop) (M1 : (Nat → Value) → World → Prop) : (Nat → Value) → World → Prop := denL Try.prog [(cd (Try.f11.body.getD .skip) [1, 1, 1, 0, 1, 0, 0, 0, 0]), (cd (Try.f11.body.getD .skip) [1, 1, 1, 0, 1, 0, 0, 0, 1]), (cd (Try.f11.body.getD .skip) [1, 1, 1, 0, 1, 0, 0, 1, 0]), (cd (Try.f11.body.getD .skip) [1, 1, 1, 0, 1, 0, 0, 1, 1])] M1 (fun i => (bif Nat.beq i 0 then (s11_p1_den K) else (fun _ _ => False))) (s11_R K)
theorem s11_p2_ok (K : Value → World → Prop) (B1 : List Value → World → Prop) (s : Nat → Value) (w : World) (h : s11_p2 K B1 (s 0) (s 3) (s 4) w) : Tr (s11_p2_den K (fun s w => B1 [s 0, s 3, s 4] w) s w) :=
  tr_simple (P := Try.prog) (codes := [(cd (Try.f11.body.getD .skip) [1, 1, 1, 0, 1, 0, 0, 0, 0]), (cd (Try.f11.body.getD .skip) [1, 1, 1, 0, 1, 0, 0, 0, 1]), (cd (Try.f11.body.getD .skip) [1, 1, 1, 0, 1, 0, 0, 1, 0]), (cd (Try.f11.body.getD .skip) [1, 1, 1, 0, 1, 0, 0, 1, 1])]) (N := (fun s w => B1 [s 0, s 3, s 4] w)) (N' := (fun s w => B1 [s 0, s 3, s 4] w)) (X := (fun i => (bif Nat.beq i 0 then (fun s w => s11_p1 K w) else (fun _ _ => False)))) (X' := (fun i => (bif Nat.beq i 0 then (s11_p1_den K) else (fun _ _ => False)))) (R := s11_R K) (s := s) (w := w) (p := s11_p2 K B1 (s 0) (s 3) (s 4) w) (q := s11_p2_den K (fun s w => B1 [s 0, s 3, s 4] w) s w) tr_id (fun i => (tr_bif (fun s w h => s11_p1_ok K s w @h) tr_id)) (by kernel_rfl) (by kernel_rfl) @h
def s11_p3_F (K : Value → World → Prop) (B1 : List Value → World → Prop) (l : List Value) (w : World) : Prop :=
  match l with
  | [t0, t3, t4] => s11_p2 K B1 t0 t3 t4 w
  | _ => False
theorem s11_p3_Fe {K : Value → World → Prop} {B1 : List Value → World → Prop} {t0 t3 t4 : Value} {w : World} : s11_p3_F K B1 [t0, t3, t4] w = s11_p2 K B1 t0 t3 t4 w := by kernel_rfl
def s11_p3 (K : Value → World → Prop) (t0 t3 t4 : Value) (w : World) : Prop :=
  LoopL (s11_p3_F K) [t0, t3, t4] w
def s11_p3_den (K : Value → World → Prop) : (Nat → Value) → World → Prop := fun s w => LoopP (fun M1 s w => s11_p2_den K M1 s w) s w
theorem s11_p3_ok (K : Value → World → Prop) (s : Nat → Value) (w : World) (h : s11_p3 K (s 0) (s 3) (s 4) w) : Tr (s11_p3_den K s w) :=
  tr_loop (G := fun N' s w => s11_p2_den K N' s w) (F := s11_p3_F K) (sel := fun s => [s 0, s 3, s 4]) (s := s) (w := w) (p := s11_p3 K (s 0) (s 3) (s 4) w) (q := s11_p3_den K s w) (fun B s w h => s11_p2_ok K B s w @h) (by kernel_rfl) (by kernel_rfl) @h
def s11_p4 (K : Value → World → Prop) (t0 : Value) (w : World) : Prop :=
  lnS t0 (fun t6 w =>
  boI .gtr t6 (.int .i64 65536) (fun t8 w =>
  ifb t8
  (K (.bool false) w)
  (s11_p3 K t0 t6 (.int .i64 0) w)) w) w
def s11_p4_den (K : Value → World → Prop) : (Nat → Value) → World → Prop := denL Try.prog [(cd (Try.f11.body.getD .skip) [0]), (cd (Try.f11.body.getD .skip) [1, 0]), (cd (Try.f11.body.getD .skip) [1, 1, 0, 0]), (cd (Try.f11.body.getD .skip) [1, 1, 0, 1]), (cd (Try.f11.body.getD .skip) [1, 1, 1, 0, 0])] (s11_p3_den K) (fun i => (fun _ _ => False)) (s11_R K)
theorem s11_p4_ok (K : Value → World → Prop) (s : Nat → Value) (w : World) (h : s11_p4 K (s 0) w) : Tr (s11_p4_den K s w) :=
  tr_simple (P := Try.prog) (codes := [(cd (Try.f11.body.getD .skip) [0]), (cd (Try.f11.body.getD .skip) [1, 0]), (cd (Try.f11.body.getD .skip) [1, 1, 0, 0]), (cd (Try.f11.body.getD .skip) [1, 1, 0, 1]), (cd (Try.f11.body.getD .skip) [1, 1, 1, 0, 0])]) (N := (fun s w => s11_p3 K (s 0) (s 3) (s 4) w)) (N' := (s11_p3_den K)) (X := (fun i => (fun _ _ => False))) (X' := (fun i => (fun _ _ => False))) (R := s11_R K) (s := s) (w := w) (p := s11_p4 K (s 0) w) (q := s11_p4_den K s w) (fun s w h => s11_p3_ok K s w @h) (fun i => tr_id) (by kernel_rfl) (by kernel_rfl) @h
/-- the call, from the text -/
theorem c11 (t0 : Value) {K : Value → World → Prop} {w : World} (h : s11_p4 K t0 w) : cl Try.prog 11 #[t0] K w :=
  calls_of_tr (c := (Try.f11.body.getD .skip)) (fn := Try.f11) (q := s11_p4_den K (st0 #[t0]) w) Try.func11 (by kernel_rfl) (by kernel_rfl) (Nat.le_of_ble_eq_true (by kernel_rfl)) (by kernel_rfl) (by kernel_rfl) (s11_p4_ok K (st0 #[t0]) w @h)

/-! ### function 12 : e2e.disklaw.fresh -/
def s12_R (K : Value → World → Prop) (s : Nat → Value) (w : World) : Prop := retv Try.prog s Try.f12.results.toList (fun vs => K (pack vs) w) w
def s12_p1 (K : Value → World → Prop) (t1 : Value) (w : World) : Prop :=
  K t1 w
def s12_p1_den (K : Value → World → Prop) : (Nat → Value) → World → Prop := denL Try.prog [(cd (Try.f12.body.getD .skip) [1, 1, 1, 0]), (cd (Try.f12.body.getD .skip) [1, 1, 1, 1])] (fun _ _ => False) (fun i => (fun _ _ => False)) (s12_R K)
theorem s12_p1_ok (K : Value → World → Prop) (s : Nat → Value) (w : World) (h : s12_p1 K (s 1) w) : Tr (s12_p1_den K s w) :=
  tr_simple (P := Try.prog) (codes := [(cd (Try.f12.body.getD .skip) [1, 1, 1, 0]), (cd (Try.f12.body.getD .skip) [1, 1, 1, 1])]) (N := (fun _ _ => False)) (N' := (fun _ _ => False)) (X := (fun i => (fun _ _ => False))) (X' := (fun i => (fun _ _ => False))) (R := s12_R K) (s := s) (w := w) (p := s12_p1 K (s 1) w) (q := s12_p1_den K s w) tr_id (fun i => tr_id) (by kernel_rfl) (by kernel_rfl) @h
def s12_p2 (K : Value → World → Prop) (w : World) : Prop :=
  bdq [(.int .i64 0), (.int .i64 0)] [(some (0, 1), (.int .i64 16)), (some (1, 1), (.int .i64 12))] (fun t4 w =>
  cl Try.prog 34 #[t4] (fun t5 w =>
  exq t5 0 (fun t6 w =>
  exq t5 1 (fun t7 w =>
  boF Try.prog true .neq t7 .nilIface (fun t9 w =>
  ifb t9
  (False)
  (s12_p1 K t6 w)) w) w) w) w) w
def s12_p2_den (K : Value → World → Prop) : (Nat → Value) → World → Prop := denL Try.prog [(cd (Try.f12.body.getD .skip) [0]), (cd (Try.f12.body.getD .skip) [1, 0]), (cd (Try.f12.body.getD .skip) [1, 1, 0, 0]), (cd (Try.f12.body.getD .skip) [1, 1, 0, 1])] (s12_p1_den K) (fun i => (fun _ _ => False)) (s12_R K)
theorem s12_p2_ok (K : Value → World → Prop) (s : Nat → Value) (w : World) (h : s12_p2 K w) : Tr (s12_p2_den K s w) :=
  tr_simple (P := Try.prog) (codes := [(cd (Try.f12.body.getD .skip) [0]), (cd (Try.f12.body.getD .skip) [1, 0]), (cd (Try.f12.body.getD .skip) [1, 1, 0, 0]), (cd (Try.f12.body.getD .skip) [1, 1, 0, 1])]) (N := (fun s w => s12_p1 K (s 1) w)) (N' := (s12_p1_den K)) (X := (fun i => (fun _ _ => False))) (X' := (fun i => (fun _ _ => False))) (R := s12_R K) (s := s) (w := w) (p := s12_p2 K w) (q := s12_p2_den K s w) (fun s w h => s12_p1_ok K s w @h) (fun i => tr_id) (by kernel_rfl) (by kernel_rfl) @h
/-- the call, from the text -/
theorem c12 {K : Value → World → Prop} {w : World} (h : s12_p2 K  w) : cl Try.prog 12 #[] K w :=
  calls_of_tr (c := (Try.f12.body.getD .skip)) (fn := Try.f12) (q := s12_p2_den K (st0 #[]) w) Try.func12 (by kernel_rfl) (by kernel_rfl) (Nat.le_of_ble_eq_true (by kernel_rfl)) (by kernel_rfl) (by kernel_rfl) (s12_p2_ok K (st0 #[]) w @h)

/-! ### function 13 : e2e.diskm.New -/
def s13_R (K : Value → World → Prop) (s : Nat → Value) (w : World) : Prop := retv Try.prog s Try.f13.results.toList (fun vs => K (pack vs) w) w
def s13_p1 (K : Value → World → Prop) (t1 : Value) (w : World) : Prop :=
  K t1 w
def s13_p1_den (K : Value → World → Prop) : (Nat → Value) → World → Prop := denL Try.prog [(cd (Try.f13.body.getD .skip) [1, 1, 1, 0]), (cd (Try.f13.body.getD .skip) [1, 1, 1, 1])] (fun _ _ => False) (fun i => (fun _ _ => False)) (s13_R K)
theorem s13_p1_ok (K : Value → World → Prop) (s : Nat → Value) (w : World) (h : s13_p1 K (s 1) w) : Tr (s13_p1_den K s w) :=
  tr_simple (P := Try.prog) (codes := [(cd (Try.f13.body.getD .skip) [1, 1, 1, 0]), (cd (Try.f13.body.getD .skip) [1, 1, 1, 1])]) (N := (fun _ _ => False)) (N' := (fun _ _ => False)) (X := (fun i => (fun _ _ => False))) (X' := (fun i => (fun _ _ => False))) (R := s13_R K) (s := s) (w := w) (p := s13_p1 K (s 1) w) (q := s13_p1_den K s w) tr_id (fun i => tr_id) (by kernel_rfl) (by kernel_rfl) @h
def s13_p2 (K : Value → World → Prop) (B1 : List Value → World → Prop) (t1 t5 : Value) (w : World) : Prop :=
  boI .add t5 (.int .i64 1) (fun t14 w =>
  B1 [t1, t14] w) w
def s13_p2_den (K : Value → World → Prop) (M1 : (Nat → Value) → World → Prop) : (Nat → Value) → World → Prop := denL Try.prog [(cd (Try.f13.body.getD .skip) [1, 1, 0, 1, 0, 0, 1, 1, 1])] M1 (fun i => (bif Nat.beq i 0 then (s13_p1_den K) else (fun _ _ => False))) (s13_R K)
theorem s13_p2_ok (K : Value → World → Prop) (B1 : List Value → World → Prop) (s : Nat → Value) (w : World) (h : s13_p2 K B1 (s 1) (s 5) w) : Tr (s13_p2_den K (fun s w => B1 [s 1, s 5] w) s w) :=
  tr_simple (P := Try.prog) (codes := [(cd (Try.f13.body.getD .skip) [1, 1, 0, 1, 0, 0, 1, 1, 1])]) (N := (fun s w => B1 [s 1, s 5] w)) (N' := (fun s w => B1 [s 1, s 5] w)) (X := (fun i => (bif Nat.beq i 0 then (fun s w => s13_p1 K (s 1) w) else (fun _ _ => False)))) (X' := (fun i => (bif Nat.beq i 0 then (s13_p1_den K) else (fun _ _ => False)))) (R := s13_R K) (s := s) (w := w) (p := s13_p2 K B1 (s 1) (s 5) w) (q := s13_p2_den K (fun s w => B1 [s 1, s 5] w) s w) tr_id (fun i => (tr_bif (fun s w h => s13_p1_ok K s w @h) tr_id)) (by kernel_rfl) (by kernel_rfl) @h
def s13_p3_d (K : Value → World → Prop) (B1 : List Value → World → Prop) (t1 t2 t5 : Value) (w0 w : World) : Prop :=
  nck t1 (fun t11 _ =>
  fd 0 t11 (fun t12 _ =>
  ixa 12 1 t12 t2 (fun t13 _ =>
  mks 5 [(.int .u8 0)] 1 (.int .i64 16) (.int .i64 16) (fun t10 w =>
  st1 t13 t10 (fun w =>
  s13_p2 K B1 t1 t5 w) w) w) w0) w0) w0
def s13_p3 (K : Value → World → Prop) (B1 : List Value → World → Prop) (t1 t2 t5 : Value) (w : World) : Prop := s13_p3_d K B1 t1 t2 t5 (drw w) (drw w)
def s13_p3_den (K : Value → World → Prop) (M1 : (Nat → Value) → World → Prop) : (Nat → Value) → World → Prop := denL Try.prog [(cd (Try.f13.body.getD .skip) [1, 1, 0, 1, 0, 0, 1, 1, 0, 0, 1])] (s13_p2_den K M1) (fun i => (bif Nat.beq i 1 then (s13_p2_den K M1) else (bif Nat.beq i 0 then (s13_p1_den K) else (fun _ _ => False)))) (s13_R K)
theorem s13_p3_ok (K : Value → World → Prop) (B1 : List Value → World → Prop) (s : Nat → Value) (w : World) (h : s13_p3 K B1 (s 1) (s 2) (s 5) w) : Tr (s13_p3_den K (fun s w => B1 [s 1, s 5] w) s w) :=
  tr_draw (P := Try.prog) (ops := (ro (cd (Try.f13.body.getD .skip) [1, 1, 0, 1, 0, 0, 1, 1, 0, 0, 1]))) (ms := [0, 0, 0, 1, 9, 31, 63]) (cs := [0, 1, 3, 4, 5]) (N := (fun s w => s13_p2 K B1 (s 1) (s 5) w)) (N' := (s13_p2_den K (fun s w => B1 [s 1, s 5] w))) (s := s) (w := w) (p := s13_p3 K B1 (s 1) (s 2) (s 5) w) (q := s13_p3_den K (fun s w => B1 [s 1, s 5] w) s w) (by kernel_rfl) (by kernel_rfl) (fun s w h => s13_p2_ok K B1 s w @h) (by kernel_rfl) (by kernel_rfl) @h
def s13_p4 (K : Value → World → Prop) (B1 : List Value → World → Prop) (t1 t5 : Value) (w : World) : Prop :=
  s13_p3 K B1 t1 t5 t5 w
def s13_p4_den (K : Value → World → Prop) (M1 : (Nat → Value) → World → Prop) : (Nat → Value) → World → Prop := denL Try.prog [(cd (Try.f13.body.getD .skip) [1, 1, 0, 1, 0, 0, 1, 1, 0, 0, 0])] (s13_p3_den K M1) (fun i => (bif Nat.beq i 1 then (s13_p2_den K M1) else (bif Nat.beq i 0 then (s13_p1_den K) else (fun _ _ => False)))) (s13_R K)
theorem s13_p4_ok (K : Value → World → Prop) (B1 : List Value → World → Prop) (s : Nat → Value) (w : World) (h : s13_p4 K B1 (s 1) (s 5) w) : Tr (s13_p4_den K (fun s w => B1 [s 1, s 5] w) s w) :=
  tr_simple (P := Try.prog) (codes := [(cd (Try.f13.body.getD .skip) [1, 1, 0, 1, 0, 0, 1, 1, 0, 0, 0])]) (N := (fun s w => s13_p3 K B1 (s 1) (s 2) (s 5) w)) (N' := (s13_p3_den K (fun s w => B1 [s 1, s 5] w))) (X := (fun i => (bif Nat.beq i 1 then (fun s w => s13_p2 K B1 (s 1) (s 5) w) else (bif Nat.beq i 0 then (fun s w => s13_p1 K (s 1) w) else (fun _ _ => False))))) (X' := (fun i => (bif Nat.beq i 1 then (s13_p2_den K (fun s w => B1 [s 1, s 5] w)) else (bif Nat.beq i 0 then (s13_p1_den K) else (fun _ _ => False))))) (R := s13_R K) (s := s) (w := w) (p := s13_p4 K B1 (s 1) (s 5) w) (q := s13_p4_den K (fun s w => B1 [s 1, s 5] w) s w) (fun s w h => s13_p3_ok K B1 s w @h) (fun i => (tr_bif (fun s w h => s13_p2_ok K B1 s w @h) (tr_bif (fun s w h => s13_p1_ok K s w @h) tr_id))) (by kernel_rfl) (by kernel_rfl) @h
def s13_p5 (K : Value → World → Prop) (B1 : List Value → World → Prop) (t1 t5 : Value) (w : World) : Prop :=
  boI .lss t5 (.int .i64 12) (fun t6 w =>
  ifb t6
  (s13_p4 K B1 t1 t5 w)
  (s13_p1 K t1 w)) w
def s13_p5_den (K : Value → World → Prop) (M1 : (Nat → Value) → World → Prop) : (Nat → Value) → World → Prop := denL Try.prog [(cd (Try.f13.body.getD .skip) [1, 1, 0, 1, 0, 0, 0]), (cd (Try.f13.body.getD .skip) [1, 1, 0, 1, 0, 0, 1, 0])] (s13_p4_den K M1) (fun i => (bif Nat.beq i 0 then (s13_p1_den K) else (fun _ _ => False))) (s13_R K)
theorem s13_p5_ok (K : Value → World → Prop) (B1 : List Value → World → Prop) (s : Nat → Value) (w : World) (h : s13_p5 K B1 (s 1) (s 5) w) : Tr (s13_p5_den K (fun s w => B1 [s 1, s 5] w) s w) :=
  tr_simple (P := Try.prog) (codes := [(cd (Try.f13.body.getD .skip) [1, 1, 0, 1, 0, 0, 0]), (cd (Try.f13.body.getD .skip) [1, 1, 0, 1, 0, 0, 1, 0])]) (N := (fun s w => s13_p4 K B1 (s 1) (s 5) w)) (N' := (s13_p4_den K (fun s w => B1 [s 1, s 5] w))) (X := (fun i => (bif Nat.beq i 0 then (fun s w => s13_p1 K (s 1) w) else (fun _ _ => False)))) (X' := (fun i => (bif Nat.beq i 0 then (s13_p1_den K) else (fun _ _ => False)))) (R := s13_R K) (s := s) (w := w) (p := s13_p5 K B1 (s 1) (s 5) w) (q := s13_p5_den K (fun s w => B1 [s 1, s 5] w) s w) (fun s w h => s13_p4_ok K B1 s w @h) (fun i => (tr_bif (fun s w h => s13_p1_ok K s w @h) tr_id)) (by kernel_rfl) (by kernel_rfl) @h
def s13_p6_F (K : Value → World → Prop) (B1 : List Value → World → Prop) (l : List Value) (w : World) : Prop :=
  match l with
  | [t1, t5] => s13_p5 K B1 t1 t5 w
  | _ => False
theorem s13_p6_Fe {K : Value → World → Prop} {B1 : List Value → World → Prop} {t1 t5 : Value} {w : World} : s13_p6_F K B1 [t1, t5] w = s13_p5 K B1 t1 t5 w := by kernel_rfl
def s13_p6 (K : Value → World → Prop) (t1 t5 : Value) (w : World) : Prop :=
  LoopL (s13_p6_F K) [t1, t5] w
def s13_p6_den (K : Value → World → Prop) : (Nat → Value) → World → Prop := fun s w => LoopP (fun M1 s w => s13_p5_den K M1 s w) s w
theorem s13_p6_ok (K : Value → World → Prop) (s : Nat → Value) (w : World) (h : s13_p6 K (s 1) (s 5) w) : Tr (s13_p6_den K s w) :=
  tr_loop (G := fun N' s w => s13_p5_den K N' s w) (F := s13_p6_F K) (sel := fun s => [s 1, s 5]) (s := s) (w := w) (p := s13_p6 K (s 1) (s 5) w) (q := s13_p6_den K s w) (fun B s w h => s13_p5_ok K B s w @h) (by kernel_rfl) (by kernel_rfl) @h
def s13_p7 (K : Value → World → Prop) (w : World) : Prop :=
  bdq [(.slice none 0 0), (.slice none 0 0), (.slice none 0 0), (.slice none 0 0), (.slice none 0 0), (.slice none 0 0), (.slice none 0 0), (.slice none 0 0), (.slice none 0 0), (.slice none 0 0), (.slice none 0 0), (.slice none 0 0), (.slice none 0 0), (.slice none 0 0), (.slice none 0 0), (.slice none 0 0), (.slice none 0 0), (.slice none 0 0), (.slice none 0 0), (.slice none 0 0), (.slice none 0 0), (.slice none 0 0), (.slice none 0 0), (.slice none 0 0), (.bool false), (.int .i64 0), (.slice none 0 0), (.int .i64 0), (.int .i64 0), (.int .i64 0), (.int .i64 0), (.int .i64 0), (.int .i64 0), (.int .i64 0)] [] (fun t3 w =>
  nw 71 (t3).cells (fun t4 w =>
  s13_p6 K t4 (.int .i64 0) w) w) w
def s13_p7_den (K : Value → World → Prop) : (Nat → Value) → World → Prop := denL Try.prog [(cd (Try.f13.body.getD .skip) [0]), (cd (Try.f13.body.getD .skip) [1, 0]), (cd (Try.f13.body.getD .skip) [1, 1, 0, 0])] (s13_p6_den K) (fun i => (fun _ _ => False)) (s13_R K)
theorem s13_p7_ok (K : Value → World → Prop) (s : Nat → Value) (w : World) (h : s13_p7 K w) : Tr (s13_p7_den K s w) :=
  tr_simple (P := Try.prog) (codes := [(cd (Try.f13.body.getD .skip) [0]), (cd (Try.f13.body.getD .skip) [1, 0]), (cd (Try.f13.body.getD .skip) [1, 1, 0, 0])]) (N := (fun s w => s13_p6 K (s 1) (s 5) w)) (N' := (s13_p6_den K)) (X := (fun i => (fun _ _ => False))) (X' := (fun i => (fun _ _ => False))) (R := s13_R K) (s := s) (w := w) (p := s13_p7 K w) (q := s13_p7_den K s w) (fun s w h => s13_p6_ok K s w @h) (fun i => tr_id) (by kernel_rfl) (by kernel_rfl) @h
/-- the call, from the text -/
theorem c13 {K : Value → World → Prop} {w : World} (h : s13_p7 K  w) : cl Try.prog 13 #[] K w :=
  calls_of_tr (c := (Try.f13.body.getD .skip)) (fn := Try.f13) (q := s13_p7_den K (st0 #[]) w) Try.func13 (by kernel_rfl) (by kernel_rfl) (Nat.le_of_ble_eq_true (by kernel_rfl)) (by kernel_rfl) (by kernel_rfl) (s13_p7_ok K (st0 #[]) w @h)

/-! ### function 14 : e2e.disklaw.play -/
def s14_R (K : Value → World → Prop) (s : Nat → Value) (w : World) : Prop := retv Try.prog s Try.f14.results.toList (fun vs => K (pack vs) w) w
def s14_p1 (K : Value → World → Prop) (w : World) : Prop :=
  K (.tuple #[(.int .i64 0), (.slice none 0 0)]) w
def s14_p1_den (K : Value → World → Prop) : (Nat → Value) → World → Prop := denL Try.prog [(cd (Try.f14.body.getD .skip) [1, 1, 0]), (cd (Try.f14.body.getD .skip) [1, 1, 1])] (fun _ _ => False) (fun i => (fun _ _ => False)) (s14_R K)
theorem s14_p1_ok (K : Value → World → Prop) (s : Nat → Value) (w : World) (h : s14_p1 K w) : Tr (s14_p1_den K s w) :=
  tr_simple (P := Try.prog) (codes := [(cd (Try.f14.body.getD .skip) [1, 1, 0]), (cd (Try.f14.body.getD .skip) [1, 1, 1])]) (N := (fun _ _ => False)) (N' := (fun _ _ => False)) (X := (fun i => (fun _ _ => False))) (X' := (fun i => (fun _ _ => False))) (R := s14_R K) (s := s) (w := w) (p := s14_p1 K w) (q := s14_p1_den K s w) tr_id (fun i => tr_id) (by kernel_rfl) (by kernel_rfl) @h
def s14_p2 (K : Value → World → Prop) (t0 t3 : Value) (w : World) : Prop :=
  fd 1 t3 (fun t13 w =>
  ld1 t13 (fun t14 w =>
  fd 2 t3 (fun t15 w =>
  ld1 t15 (fun t16 w =>
  cl Try.prog 36 #[t0, t14, t16] (fun t17 w =>
  cl Try.prog 31 #[t17] (fun t18 w =>
  K (.tuple #[t18, (.slice none 0 0)]) w) w) w) w) w) w) w
def s14_p2_den (K : Value → World → Prop) : (Nat → Value) → World → Prop := denL Try.prog [(cd (Try.f14.body.getD .skip) [1, 0, 1, 0, 1, 0, 0]), (cd (Try.f14.body.getD .skip) [1, 0, 1, 0, 1, 0, 1])] (fun _ _ => False) (fun i => (bif Nat.beq i 0 then (s14_p1_den K) else (fun _ _ => False))) (s14_R K)
theorem s14_p2_ok (K : Value → World → Prop) (s : Nat → Value) (w : World) (h : s14_p2 K (s 0) (s 3) w) : Tr (s14_p2_den K s w) :=
  tr_simple (P := Try.prog) (codes := [(cd (Try.f14.body.getD .skip) [1, 0, 1, 0, 1, 0, 0]), (cd (Try.f14.body.getD .skip) [1, 0, 1, 0, 1, 0, 1])]) (N := (fun _ _ => False)) (N' := (fun _ _ => False)) (X := (fun i => (bif Nat.beq i 0 then (fun s w => s14_p1 K w) else (fun _ _ => False)))) (X' := (fun i => (bif Nat.beq i 0 then (s14_p1_den K) else (fun _ _ => False)))) (R := s14_R K) (s := s) (w := w) (p := s14_p2 K (s 0) (s 3) w) (q := s14_p2_den K s w) tr_id (fun i => (tr_bif (fun s w h => s14_p1_ok K s w @h) tr_id)) (by kernel_rfl) (by kernel_rfl) @h
def s14_p3 (K : Value → World → Prop) (t0 t3 t6 : Value) (w : World) : Prop :=
  fd 1 t3 (fun t35 w =>
  ld1 t35 (fun t36 w =>
  cl Try.prog 37 #[t0, t36, t6] (fun t38 w =>
  cl Try.prog 31 #[t38] (fun t39 w =>
  K (.tuple #[t39, t6]) w) w) w) w) w
def s14_p3_den (K : Value → World → Prop) : (Nat → Value) → World → Prop := denL Try.prog [(cd (Try.f14.body.getD .skip) [1, 0, 1, 0, 1, 1, 1, 0, 1, 1, 0]), (cd (Try.f14.body.getD .skip) [1, 0, 1, 0, 1, 1, 1, 0, 1, 1, 1])] (fun _ _ => False) (fun i => (bif Nat.beq i 0 then (s14_p1_den K) else (fun _ _ => False))) (s14_R K)
theorem s14_p3_ok (K : Value → World → Prop) (s : Nat → Value) (w : World) (h : s14_p3 K (s 0) (s 3) (s 6) w) : Tr (s14_p3_den K s w) :=
  tr_simple (P := Try.prog) (codes := [(cd (Try.f14.body.getD .skip) [1, 0, 1, 0, 1, 1, 1, 0, 1, 1, 0]), (cd (Try.f14.body.getD .skip) [1, 0, 1, 0, 1, 1, 1, 0, 1, 1, 1])]) (N := (fun _ _ => False)) (N' := (fun _ _ => False)) (X := (fun i => (bif Nat.beq i 0 then (fun s w => s14_p1 K w) else (fun _ _ => False)))) (X' := (fun i => (bif Nat.beq i 0 then (s14_p1_den K) else (fun _ _ => False)))) (R := s14_R K) (s := s) (w := w) (p := s14_p3 K (s 0) (s 3) (s 6) w) (q := s14_p3_den K s w) tr_id (fun i => (tr_bif (fun s w h => s14_p1_ok K s w @h) tr_id)) (by kernel_rfl) (by kernel_rfl) @h
def s14_p4 (K : Value → World → Prop) (B1 : List Value → World → Prop) (t0 t3 t6 t26 t27 : Value) (w : World) : Prop :=
  boI .lss t27 t26 (fun t28 w =>
  ifb t28
  (ixs 1 t6 t27 (fun t32 w =>
  st1 t32 (.int .u8 238) (fun w =>
  boI .add t27 (.int .i64 1) (fun t33 w =>
  B1 [t0, t3, t6, t26, t33] w) w) w) w)
  (s14_p3 K t0 t3 t6 w)) w
def s14_p4_den (K : Value → World → Prop) (M1 : (Nat → Value) → World → Prop) : (Nat → Value) → World → Prop := denL Try.prog [(cd (Try.f14.body.getD .skip) [1, 0, 1, 0, 1, 1, 1, 0, 1, 0, 1, 0, 0, 0]), (cd (Try.f14.body.getD .skip) [1, 0, 1, 0, 1, 1, 1, 0, 1, 0, 1, 0, 0, 1, 0]), (cd (Try.f14.body.getD .skip) [1, 0, 1, 0, 1, 1, 1, 0, 1, 0, 1, 0, 0, 1, 1, 0]), (cd (Try.f14.body.getD .skip) [1, 0, 1, 0, 1, 1, 1, 0, 1, 0, 1, 0, 0, 1, 1, 1])] M1 (fun i => (bif Nat.beq i 1 then (s14_p3_den K) else (bif Nat.beq i 0 then (s14_p1_den K) else (fun _ _ => False)))) (s14_R K)
theorem s14_p4_ok (K : Value → World → Prop) (B1 : List Value → World → Prop) (s : Nat → Value) (w : World) (h : s14_p4 K B1 (s 0) (s 3) (s 6) (s 26) (s 27) w) : Tr (s14_p4_den K (fun s w => B1 [s 0, s 3, s 6, s 26, s 27] w) s w) :=
  tr_simple (P := Try.prog) (codes := [(cd (Try.f14.body.getD .skip) [1, 0, 1, 0, 1, 1, 1, 0, 1, 0, 1, 0, 0, 0]), (cd (Try.f14.body.getD .skip) [1, 0, 1, 0, 1, 1, 1, 0, 1, 0, 1, 0, 0, 1, 0]), (cd (Try.f14.body.getD .skip) [1, 0, 1, 0, 1, 1, 1, 0, 1, 0, 1, 0, 0, 1, 1, 0]), (cd (Try.f14.body.getD .skip) [1, 0, 1, 0, 1, 1, 1, 0, 1, 0, 1, 0, 0, 1, 1, 1])]) (N := (fun s w => B1 [s 0, s 3, s 6, s 26, s 27] w)) (N' := (fun s w => B1 [s 0, s 3, s 6, s 26, s 27] w)) (X := (fun i => (bif Nat.beq i 1 then (fun s w => s14_p3 K (s 0) (s 3) (s 6) w) else (bif Nat.beq i 0 then (fun s w => s14_p1 K w) else (fun _ _ => False))))) (X' := (fun i => (bif Nat.beq i 1 then (s14_p3_den K) else (bif Nat.beq i 0 then (s14_p1_den K) else (fun _ _ => False))))) (R := s14_R K) (s := s) (w := w) (p := s14_p4 K B1 (s 0) (s 3) (s 6) (s 26) (s 27) w) (q := s14_p4_den K (fun s w => B1 [s 0, s 3, s 6, s 26, s 27] w) s w) tr_id (fun i => (tr_bif (fun s w h => s14_p3_ok K s w @h) (tr_bif (fun s w h => s14_p1_ok K s w @h) tr_id))) (by kernel_rfl) (by kernel_rfl) @h
def s14_p5_F (K : Value → World → Prop) (B1 : List Value → World → Prop) (l : List Value) (w : World) : Prop :=
  match l with
  | [t0, t3, t6, t26, t27] => s14_p4 K B1 t0 t3 t6 t26 t27 w
  | _ => False
theorem s14_p5_Fe {K : Value → World → Prop} {B1 : List Value → World → Prop} {t0 t3 t6 t26 t27 : Value} {w : World} : s14_p5_F K B1 [t0, t3, t6, t26, t27] w = s14_p4 K B1 t0 t3 t6 t26 t27 w := by kernel_rfl
def s14_p5 (K : Value → World → Prop) (t0 t3 t6 t26 t27 : Value) (w : World) : Prop :=
  LoopL (s14_p5_F K) [t0, t3, t6, t26, t27] w
def s14_p5_den (K : Value → World → Prop) : (Nat → Value) → World → Prop := fun s w => LoopP (fun M1 s w => s14_p4_den K M1 s w) s w
theorem s14_p5_ok (K : Value → World → Prop) (s : Nat → Value) (w : World) (h : s14_p5 K (s 0) (s 3) (s 6) (s 26) (s 27) w) : Tr (s14_p5_den K s w) :=
  tr_loop (G := fun N' s w => s14_p4_den K N' s w) (F := s14_p5_F K) (sel := fun s => [s 0, s 3, s 6, s 26, s 27]) (s := s) (w := w) (p := s14_p5 K (s 0) (s 3) (s 6) (s 26) (s 27) w) (q := s14_p5_den K s w) (fun B s w h => s14_p4_ok K B s w @h) (by kernel_rfl) (by kernel_rfl) @h
def s14_p6 (K : Value → World → Prop) (t0 t3 : Value) (w : World) : Prop :=
  fd 3 t3 (fun t21 w =>
  ld1 t21 (fun t22 w =>
  cl Try.prog 28 #[t22] (fun t23 w =>
  mks 5 [(.int .u8 0)] 1 t23 t23 (fun t24 w =>
  lnS t24 (fun t26 w =>
  s14_p5 K t0 t3 t24 t26 (.int .i64 0) w) w) w) w) w) w
def s14_p6_den (K : Value → World → Prop) : (Nat → Value) → World → Prop := denL Try.prog [(cd (Try.f14.body.getD .skip) [1, 0, 1, 0, 1, 1, 1, 0, 0]), (cd (Try.f14.body.getD .skip) [1, 0, 1, 0, 1, 1, 1, 0, 1, 0, 0])] (s14_p5_den K) (fun i => (bif Nat.beq i 0 then (s14_p1_den K) else (fun _ _ => False))) (s14_R K)
theorem s14_p6_ok (K : Value → World → Prop) (s : Nat → Value) (w : World) (h : s14_p6 K (s 0) (s 3) w) : Tr (s14_p6_den K s w) :=
  tr_simple (P := Try.prog) (codes := [(cd (Try.f14.body.getD .skip) [1, 0, 1, 0, 1, 1, 1, 0, 0]), (cd (Try.f14.body.getD .skip) [1, 0, 1, 0, 1, 1, 1, 0, 1, 0, 0])]) (N := (fun s w => s14_p5 K (s 0) (s 3) (s 6) (s 26) (s 27) w)) (N' := (s14_p5_den K)) (X := (fun i => (bif Nat.beq i 0 then (fun s w => s14_p1 K w) else (fun _ _ => False)))) (X' := (fun i => (bif Nat.beq i 0 then (s14_p1_den K) else (fun _ _ => False)))) (R := s14_R K) (s := s) (w := w) (p := s14_p6 K (s 0) (s 3) w) (q := s14_p6_den K s w) (fun s w h => s14_p5_ok K s w @h) (fun i => (tr_bif (fun s w h => s14_p1_ok K s w @h) tr_id)) (by kernel_rfl) (by kernel_rfl) @h
def s14_p7 (K : Value → World → Prop) (t0 t3 t9 : Value) (w : World) : Prop :=
  boI .eql t9 (.int .i64 2) (fun t42 w =>
  ifb t42
  (cl Try.prog 32 #[t0] (fun t44 w =>
  cl Try.prog 31 #[t44] (fun t45 w =>
  K (.tuple #[t45, (.slice none 0 0)]) w) w) w)
  (boI .eql t9 (.int .i64 3) (fun t47 w =>
  ifb t47
  (fd 5 t3 (fun t49 w =>
  ldn 3 t49 (fun t50 w =>
  cl Try.prog 30 #[t0, t50] (fun t51 w =>
  cl Try.prog 31 #[t51] (fun t52 w =>
  K (.tuple #[t52, (.slice none 0 0)]) w) w) w) w) w)
  (boI .eql t9 (.int .i64 4) (fun t54 w =>
  ifb t54
  (cl Try.prog 26 #[t0] (fun t56 w =>
  cl Try.prog 31 #[t56] (fun t57 w =>
  K (.tuple #[t57, (.slice none 0 0)]) w) w) w)
  (boI .eql t9 (.int .i64 5) (fun t59 w =>
  ifb t59
  (fd 4 t3 (fun t61 w =>
  ld1 t61 (fun t62 w =>
  fd 5 t3 (fun t63 w =>
  ldn 3 t63 (fun t64 w =>
  cl Try.prog 38 #[t0, t62, t64] (fun t65 w =>
  cl Try.prog 31 #[t65] (fun t66 w =>
  K (.tuple #[t66, (.slice none 0 0)]) w) w) w) w) w) w) w)
  (boI .eql t9 (.int .i64 6) (fun t68 w =>
  ifb t68
  (cl Try.prog 39 #[t0] (fun t70 w =>
  cl Try.prog 31 #[t70] (fun t71 w =>
  K (.tuple #[t71, (.slice none 0 0)]) w) w) w)
  (s14_p1 K w)) w)) w)) w)) w)) w
def s14_p7_den (K : Value → World → Prop) : (Nat → Value) → World → Prop := denL Try.prog [(cd (Try.f14.body.getD .skip) [1, 0, 1, 0, 1, 1, 1, 1, 0]), (cd (Try.f14.body.getD .skip) [1, 0, 1, 0, 1, 1, 1, 1, 1])] (s14_p1_den K) (fun i => (bif Nat.beq i 0 then (s14_p1_den K) else (fun _ _ => False))) (s14_R K)
theorem s14_p7_ok (K : Value → World → Prop) (s : Nat → Value) (w : World) (h : s14_p7 K (s 0) (s 3) (s 9) w) : Tr (s14_p7_den K s w) :=
  tr_simple (P := Try.prog) (codes := [(cd (Try.f14.body.getD .skip) [1, 0, 1, 0, 1, 1, 1, 1, 0]), (cd (Try.f14.body.getD .skip) [1, 0, 1, 0, 1, 1, 1, 1, 1])]) (N := (fun s w => s14_p1 K w)) (N' := (s14_p1_den K)) (X := (fun i => (bif Nat.beq i 0 then (fun s w => s14_p1 K w) else (fun _ _ => False)))) (X' := (fun i => (bif Nat.beq i 0 then (s14_p1_den K) else (fun _ _ => False)))) (R := s14_R K) (s := s) (w := w) (p := s14_p7 K (s 0) (s 3) (s 9) w) (q := s14_p7_den K s w) (fun s w h => s14_p1_ok K s w @h) (fun i => (tr_bif (fun s w h => s14_p1_ok K s w @h) tr_id)) (by kernel_rfl) (by kernel_rfl) @h
def s14_p8 (K : Value → World → Prop) (t0 t3 t9 t19 : Value) (w : World) : Prop :=
  ifb t19
  (s14_p6 K t0 t3 w)
  (s14_p7 K t0 t3 t9 w)
def s14_p8_den (K : Value → World → Prop) : (Nat → Value) → World → Prop := fun s w => ifb (ev s (.tmp 19)) ((s14_p6_den K) s w) ((s14_p7_den K) s w)
theorem s14_p8_ok (K : Value → World → Prop) (s : Nat → Value) (w : World) (h : s14_p8 K (s 0) (s 3) (s 9) (s 19) w) : Tr (s14_p8_den K s w) :=
  tr_cond (v := ev s (.tmp 19)) (a := (fun s w => s14_p6 K (s 0) (s 3) w) s w) (a' := (s14_p6_den K) s w) (b := (fun s w => s14_p7 K (s 0) (s 3) (s 9) w) s w) (b' := (s14_p7_den K) s w) (p := s14_p8 K (s 0) (s 3) (s 9) (s 19) w) (q := s14_p8_den K s w) ((fun s w h => s14_p6_ok K s w @h) s w) ((fun s w h => s14_p7_ok K s w @h) s w) (by kernel_rfl) (by kernel_rfl) @h
def s14_p9 (K : Value → World → Prop) (t0 t3 t9 : Value) (w : World) : Prop :=
  boI .eql t9 (.int .i64 1) (fun t20 w =>
  s14_p8 K t0 t3 t9 t20 w) w
def s14_p9_den (K : Value → World → Prop) : (Nat → Value) → World → Prop := denL Try.prog [(cd (Try.f14.body.getD .skip) [1, 0, 1, 0, 1, 1, 0])] (s14_p8_den K) (fun i => (bif Nat.beq i 0 then (s14_p1_den K) else (fun _ _ => False))) (s14_R K)
theorem s14_p9_ok (K : Value → World → Prop) (s : Nat → Value) (w : World) (h : s14_p9 K (s 0) (s 3) (s 9) w) : Tr (s14_p9_den K s w) :=
  tr_simple (P := Try.prog) (codes := [(cd (Try.f14.body.getD .skip) [1, 0, 1, 0, 1, 1, 0])]) (N := (fun s w => s14_p8 K (s 0) (s 3) (s 9) (s 19) w)) (N' := (s14_p8_den K)) (X := (fun i => (bif Nat.beq i 0 then (fun s w => s14_p1 K w) else (fun _ _ => False)))) (X' := (fun i => (bif Nat.beq i 0 then (s14_p1_den K) else (fun _ _ => False)))) (R := s14_R K) (s := s) (w := w) (p := s14_p9 K (s 0) (s 3) (s 9) w) (q := s14_p9_den K s w) (fun s w h => s14_p8_ok K s w @h) (fun i => (tr_bif (fun s w h => s14_p1_ok K s w @h) tr_id)) (by kernel_rfl) (by kernel_rfl) @h
def s14_p10 (K : Value → World → Prop) (t0 t3 t9 t10 : Value) (w : World) : Prop :=
  ifb t10
  (s14_p2 K t0 t3 w)
  (s14_p9 K t0 t3 t9 w)
def s14_p10_den (K : Value → World → Prop) : (Nat → Value) → World → Prop := fun s w => ifb (ev s (.tmp 10)) ((s14_p2_den K) s w) ((s14_p9_den K) s w)
theorem s14_p10_ok (K : Value → World → Prop) (s : Nat → Value) (w : World) (h : s14_p10 K (s 0) (s 3) (s 9) (s 10) w) : Tr (s14_p10_den K s w) :=
  tr_cond (v := ev s (.tmp 10)) (a := (fun s w => s14_p2 K (s 0) (s 3) w) s w) (a' := (s14_p2_den K) s w) (b := (fun s w => s14_p9 K (s 0) (s 3) (s 9) w) s w) (b' := (s14_p9_den K) s w) (p := s14_p10 K (s 0) (s 3) (s 9) (s 10) w) (q := s14_p10_den K s w) ((fun s w h => s14_p2_ok K s w @h) s w) ((fun s w h => s14_p9_ok K s w @h) s w) (by kernel_rfl) (by kernel_rfl) @h
def s14_p11 (K : Value → World → Prop) (t0 t3 t9 : Value) (w : World) : Prop :=
  boI .eql t9 (.int .i64 0) (fun t11 w =>
  s14_p10 K t0 t3 t9 t11 w) w
def s14_p11_den (K : Value → World → Prop) : (Nat → Value) → World → Prop := denL Try.prog [(cd (Try.f14.body.getD .skip) [1, 0, 1, 0, 0])] (s14_p10_den K) (fun i => (bif Nat.beq i 0 then (s14_p1_den K) else (fun _ _ => False))) (s14_R K)
theorem s14_p11_ok (K : Value → World → Prop) (s : Nat → Value) (w : World) (h : s14_p11 K (s 0) (s 3) (s 9) w) : Tr (s14_p11_den K s w) :=
  tr_simple (P := Try.prog) (codes := [(cd (Try.f14.body.getD .skip) [1, 0, 1, 0, 0])]) (N := (fun s w => s14_p10 K (s 0) (s 3) (s 9) (s 10) w)) (N' := (s14_p10_den K)) (X := (fun i => (bif Nat.beq i 0 then (fun s w => s14_p1 K w) else (fun _ _ => False)))) (X' := (fun i => (bif Nat.beq i 0 then (s14_p1_den K) else (fun _ _ => False)))) (R := s14_R K) (s := s) (w := w) (p := s14_p11 K (s 0) (s 3) (s 9) w) (q := s14_p11_den K s w) (fun s w h => s14_p10_ok K s w @h) (fun i => (tr_bif (fun s w h => s14_p1_ok K s w @h) tr_id)) (by kernel_rfl) (by kernel_rfl) @h
def s14_p12 (K : Value → World → Prop) (t0 t1 : Value) (w : World) : Prop :=
  nw 34 (t1).cells (fun t3 w =>
  fd 0 t3 (fun t8 w =>
  ld1 t8 (fun t9 w =>
  s14_p11 K t0 t3 t9 w) w) w) w
def s14_p12_den (K : Value → World → Prop) : (Nat → Value) → World → Prop := denL Try.prog [(cd (Try.f14.body.getD .skip) [0]), (cd (Try.f14.body.getD .skip) [1, 0, 0])] (s14_p11_den K) (fun i => (fun _ _ => False)) (s14_R K)
theorem s14_p12_ok (K : Value → World → Prop) (s : Nat → Value) (w : World) (h : s14_p12 K (s 0) (s 1) w) : Tr (s14_p12_den K s w) :=
  tr_simple (P := Try.prog) (codes := [(cd (Try.f14.body.getD .skip) [0]), (cd (Try.f14.body.getD .skip) [1, 0, 0])]) (N := (fun s w => s14_p11 K (s 0) (s 3) (s 9) w)) (N' := (s14_p11_den K)) (X := (fun i => (fun _ _ => False))) (X' := (fun i => (fun _ _ => False))) (R := s14_R K) (s := s) (w := w) (p := s14_p12 K (s 0) (s 1) w) (q := s14_p12_den K s w) (fun s w h => s14_p11_ok K s w @h) (fun i => tr_id) (by kernel_rfl) (by kernel_rfl) @h
/-- the call, from the text -/
theorem c14 (t0 t1 : Value) {K : Value → World → Prop} {w : World} (h : s14_p12 K t0 t1 w) : cl Try.prog 14 #[t0, t1] K w :=
  calls_of_tr (c := (Try.f14.body.getD .skip)) (fn := Try.f14) (q := s14_p12_den K (st0 #[t0, t1]) w) Try.func14 (by kernel_rfl) (by kernel_rfl) (Nat.le_of_ble_eq_true (by kernel_rfl)) (by kernel_rfl) (by kernel_rfl) (s14_p12_ok K (st0 #[t0, t1]) w @h)

/-! ### function 15 : e2e.disklaw.playModel -/
def s15_R (K : Value → World → Prop) (s : Nat → Value) (w : World) : Prop := retv Try.prog s Try.f15.results.toList (fun vs => K (pack vs) w) w
def s15_p1 (K : Value → World → Prop) (w : World) : Prop :=
  K (.tuple #[(.int .i64 0), (.slice none 0 0)]) w
def s15_p1_den (K : Value → World → Prop) : (Nat → Value) → World → Prop := denL Try.prog [(cd (Try.f15.body.getD .skip) [1, 1, 0]), (cd (Try.f15.body.getD .skip) [1, 1, 1])] (fun _ _ => False) (fun i => (fun _ _ => False)) (s15_R K)
theorem s15_p1_ok (K : Value → World → Prop) (s : Nat → Value) (w : World) (h : s15_p1 K w) : Tr (s15_p1_den K s w) :=
  tr_simple (P := Try.prog) (codes := [(cd (Try.f15.body.getD .skip) [1, 1, 0]), (cd (Try.f15.body.getD .skip) [1, 1, 1])]) (N := (fun _ _ => False)) (N' := (fun _ _ => False)) (X := (fun i => (fun _ _ => False))) (X' := (fun i => (fun _ _ => False))) (R := s15_R K) (s := s) (w := w) (p := s15_p1 K w) (q := s15_p1_den K s w) tr_id (fun i => tr_id) (by kernel_rfl) (by kernel_rfl) @h
def s15_p2 (K : Value → World → Prop) (t0 t3 : Value) (w : World) : Prop :=
  fd 1 t3 (fun t13 w =>
  ld1 t13 (fun t14 w =>
  fd 2 t3 (fun t15 w =>
  ld1 t15 (fun t16 w =>
  cl Try.prog 40 #[t0, t14, t16] (fun t17 w =>
  K (.tuple #[t17, (.slice none 0 0)]) w) w) w) w) w) w
def s15_p2_den (K : Value → World → Prop) : (Nat → Value) → World → Prop := denL Try.prog [(cd (Try.f15.body.getD .skip) [1, 0, 1, 0, 1, 0, 0]), (cd (Try.f15.body.getD .skip) [1, 0, 1, 0, 1, 0, 1])] (fun _ _ => False) (fun i => (bif Nat.beq i 0 then (s15_p1_den K) else (fun _ _ => False))) (s15_R K)
theorem s15_p2_ok (K : Value → World → Prop) (s : Nat → Value) (w : World) (h : s15_p2 K (s 0) (s 3) w) : Tr (s15_p2_den K s w) :=
  tr_simple (P := Try.prog) (codes := [(cd (Try.f15.body.getD .skip) [1, 0, 1, 0, 1, 0, 0]), (cd (Try.f15.body.getD .skip) [1, 0, 1, 0, 1, 0, 1])]) (N := (fun _ _ => False)) (N' := (fun _ _ => False)) (X := (fun i => (bif Nat.beq i 0 then (fun s w => s15_p1 K w) else (fun _ _ => False)))) (X' := (fun i => (bif Nat.beq i 0 then (s15_p1_den K) else (fun _ _ => False)))) (R := s15_R K) (s := s) (w := w) (p := s15_p2 K (s 0) (s 3) w) (q := s15_p2_den K s w) tr_id (fun i => (tr_bif (fun s w h => s15_p1_ok K s w @h) tr_id)) (by kernel_rfl) (by kernel_rfl) @h
def s15_p3 (K : Value → World → Prop) (t6 t7 : Value) (w : World) : Prop :=
  K (.tuple #[t7, t6]) w
def s15_p3_den (K : Value → World → Prop) : (Nat → Value) → World → Prop := denL Try.prog [(cd (Try.f15.body.getD .skip) [1, 0, 1, 0, 1, 1, 1, 0, 1, 0]), (cd (Try.f15.body.getD .skip) [1, 0, 1, 0, 1, 1, 1, 0, 1, 1])] (fun _ _ => False) (fun i => (bif Nat.beq i 0 then (s15_p1_den K) else (fun _ _ => False))) (s15_R K)
theorem s15_p3_ok (K : Value → World → Prop) (s : Nat → Value) (w : World) (h : s15_p3 K (s 6) (s 7) w) : Tr (s15_p3_den K s w) :=
  tr_simple (P := Try.prog) (codes := [(cd (Try.f15.body.getD .skip) [1, 0, 1, 0, 1, 1, 1, 0, 1, 0]), (cd (Try.f15.body.getD .skip) [1, 0, 1, 0, 1, 1, 1, 0, 1, 1])]) (N := (fun _ _ => False)) (N' := (fun _ _ => False)) (X := (fun i => (bif Nat.beq i 0 then (fun s w => s15_p1 K w) else (fun _ _ => False)))) (X' := (fun i => (bif Nat.beq i 0 then (s15_p1_den K) else (fun _ _ => False)))) (R := s15_R K) (s := s) (w := w) (p := s15_p3 K (s 6) (s 7) w) (q := s15_p3_den K s w) tr_id (fun i => (tr_bif (fun s w h => s15_p1_ok K s w @h) tr_id)) (by kernel_rfl) (by kernel_rfl) @h
def s15_p4_d (K : Value → World → Prop) (t0 t3 : Value) (w0 w : World) : Prop :=
  fd 1 t3 (fun t22 _ =>
  ld1 t22 (fun t23 _ =>
  fd 3 t3 (fun t24 _ =>
  ld1 t24 (fun t25 _ =>
  cl Try.prog 28 #[t25] (fun t26 w =>
  Below w0.heap.size w0 w ∧
  cl Try.prog 41 #[t0, t23, t26] (fun t27 w =>
  (exq t27 0 (fun t28 w =>
  (exq t27 1 (fun t29 w =>
  s15_p3 K t28 t29 w) w) ∧
  (exq t27 1 (fun t29_2 w =>
  s15_p3 K t28 t29_2 w) w)) w) ∧
  (exq t27 1 (fun t29_3 w =>
  exq t27 0 (fun t28_2 w =>
  s15_p3 K t28_2 t29_3 w) w) w)) w) w) w0) w0) w0) w0
def s15_p4 (K : Value → World → Prop) (t0 t3 : Value) (w : World) : Prop := s15_p4_d K t0 t3 (drw w) (drw w)
def s15_p4_den (K : Value → World → Prop) : (Nat → Value) → World → Prop := denL Try.prog [(cd (Try.f15.body.getD .skip) [1, 0, 1, 0, 1, 1, 1, 0, 0])] (s15_p3_den K) (fun i => (bif Nat.beq i 0 then (s15_p1_den K) else (fun _ _ => False))) (s15_R K)
theorem s15_p4_ok (K : Value → World → Prop) (s : Nat → Value) (w : World) (h : s15_p4 K (s 0) (s 3) w) : Tr (s15_p4_den K s w) :=
  tr_draw (P := Try.prog) (ops := (ro (cd (Try.f15.body.getD .skip) [1, 0, 1, 0, 1, 1, 1, 0, 0]))) (ms := [0, 0, 2, 0, 8, 24, 63, 127, 255, 255, 511, 2047]) (cs := [0, 1, 2, 3, 4]) (N := (fun s w => s15_p3 K (s 6) (s 7) w)) (N' := (s15_p3_den K)) (s := s) (w := w) (p := s15_p4 K (s 0) (s 3) w) (q := s15_p4_den K s w) (by kernel_rfl) (by kernel_rfl) (fun s w h => s15_p3_ok K s w @h) (by kernel_rfl) (by kernel_rfl) @h
def s15_p5 (K : Value → World → Prop) (t0 t3 t9 : Value) (w : World) : Prop :=
  boI .eql t9 (.int .i64 2) (fun t33 w =>
  ifb t33
  (cl Try.prog 42 #[t0] (fun t35 w =>
  K (.tuple #[t35, (.slice none 0 0)]) w) w)
  (boI .eql t9 (.int .i64 3) (fun t37 w =>
  ifb t37
  (fd 5 t3 (fun t39 w =>
  ldn 3 t39 (fun t40 w =>
  cl Try.prog 43 #[t0, t40] (fun t41 w =>
  K (.tuple #[t41, (.slice none 0 0)]) w) w) w) w)
  (boI .eql t9 (.int .i64 4) (fun t43 w =>
  ifb t43
  (cl Try.prog 44 #[t0] (fun t45 w =>
  K (.tuple #[t45, (.slice none 0 0)]) w) w)
  (boI .eql t9 (.int .i64 5) (fun t47 w =>
  ifb t47
  (fd 4 t3 (fun t49 w =>
  ld1 t49 (fun t50 w =>
  fd 5 t3 (fun t51 w =>
  ldn 3 t51 (fun t52 w =>
  cl Try.prog 45 #[t0, t50, t52] (fun t53 w =>
  K (.tuple #[t53, (.slice none 0 0)]) w) w) w) w) w) w)
  (boI .eql t9 (.int .i64 6) (fun t55 w =>
  ifb t55
  (cl Try.prog 46 #[t0] (fun t57 w =>
  K (.tuple #[t57, (.slice none 0 0)]) w) w)
  (s15_p1 K w)) w)) w)) w)) w)) w
def s15_p5_den (K : Value → World → Prop) : (Nat → Value) → World → Prop := denL Try.prog [(cd (Try.f15.body.getD .skip) [1, 0, 1, 0, 1, 1, 1, 1, 0]), (cd (Try.f15.body.getD .skip) [1, 0, 1, 0, 1, 1, 1, 1, 1])] (s15_p1_den K) (fun i => (bif Nat.beq i 0 then (s15_p1_den K) else (fun _ _ => False))) (s15_R K)
theorem s15_p5_ok (K : Value → World → Prop) (s : Nat → Value) (w : World) (h : s15_p5 K (s 0) (s 3) (s 9) w) : Tr (s15_p5_den K s w) :=
  tr_simple (P := Try.prog) (codes := [(cd (Try.f15.body.getD .skip) [1, 0, 1, 0, 1, 1, 1, 1, 0]), (cd (Try.f15.body.getD .skip) [1, 0, 1, 0, 1, 1, 1, 1, 1])]) (N := (fun s w => s15_p1 K w)) (N' := (s15_p1_den K)) (X := (fun i => (bif Nat.beq i 0 then (fun s w => s15_p1 K w) else (fun _ _ => False)))) (X' := (fun i => (bif Nat.beq i 0 then (s15_p1_den K) else (fun _ _ => False)))) (R := s15_R K) (s := s) (w := w) (p := s15_p5 K (s 0) (s 3) (s 9) w) (q := s15_p5_den K s w) (fun s w h => s15_p1_ok K s w @h) (fun i => (tr_bif (fun s w h => s15_p1_ok K s w @h) tr_id)) (by kernel_rfl) (by kernel_rfl) @h
def s15_p6 (K : Value → World → Prop) (t0 t3 t9 t18 : Value) (w : World) : Prop :=
  ifb t18
  (s15_p4 K t0 t3 w)
  (s15_p5 K t0 t3 t9 w)
def s15_p6_den (K : Value → World → Prop) : (Nat → Value) → World → Prop := fun s w => ifb (ev s (.tmp 18)) ((s15_p4_den K) s w) ((s15_p5_den K) s w)
theorem s15_p6_ok (K : Value → World → Prop) (s : Nat → Value) (w : World) (h : s15_p6 K (s 0) (s 3) (s 9) (s 18) w) : Tr (s15_p6_den K s w) :=
  tr_cond (v := ev s (.tmp 18)) (a := (fun s w => s15_p4 K (s 0) (s 3) w) s w) (a' := (s15_p4_den K) s w) (b := (fun s w => s15_p5 K (s 0) (s 3) (s 9) w) s w) (b' := (s15_p5_den K) s w) (p := s15_p6 K (s 0) (s 3) (s 9) (s 18) w) (q := s15_p6_den K s w) ((fun s w h => s15_p4_ok K s w @h) s w) ((fun s w h => s15_p5_ok K s w @h) s w) (by kernel_rfl) (by kernel_rfl) @h
def s15_p7 (K : Value → World → Prop) (t0 t3 t9 : Value) (w : World) : Prop :=
  boI .eql t9 (.int .i64 1) (fun t19 w =>
  s15_p6 K t0 t3 t9 t19 w) w
def s15_p7_den (K : Value → World → Prop) : (Nat → Value) → World → Prop := denL Try.prog [(cd (Try.f15.body.getD .skip) [1, 0, 1, 0, 1, 1, 0])] (s15_p6_den K) (fun i => (bif Nat.beq i 0 then (s15_p1_den K) else (fun _ _ => False))) (s15_R K)
theorem s15_p7_ok (K : Value → World → Prop) (s : Nat → Value) (w : World) (h : s15_p7 K (s 0) (s 3) (s 9) w) : Tr (s15_p7_den K s w) :=
  tr_simple (P := Try.prog) (codes := [(cd (Try.f15.body.getD .skip) [1, 0, 1, 0, 1, 1, 0])]) (N := (fun s w => s15_p6 K (s 0) (s 3) (s 9) (s 18) w)) (N' := (s15_p6_den K)) (X := (fun i => (bif Nat.beq i 0 then (fun s w => s15_p1 K w) else (fun _ _ => False)))) (X' := (fun i => (bif Nat.beq i 0 then (s15_p1_den K) else (fun _ _ => False)))) (R := s15_R K) (s := s) (w := w) (p := s15_p7 K (s 0) (s 3) (s 9) w) (q := s15_p7_den K s w) (fun s w h => s15_p6_ok K s w @h) (fun i => (tr_bif (fun s w h => s15_p1_ok K s w @h) tr_id)) (by kernel_rfl) (by kernel_rfl) @h
def s15_p8 (K : Value → World → Prop) (t0 t3 t9 t10 : Value) (w : World) : Prop :=
  ifb t10
  (s15_p2 K t0 t3 w)
  (s15_p7 K t0 t3 t9 w)
def s15_p8_den (K : Value → World → Prop) : (Nat → Value) → World → Prop := fun s w => ifb (ev s (.tmp 10)) ((s15_p2_den K) s w) ((s15_p7_den K) s w)
theorem s15_p8_ok (K : Value → World → Prop) (s : Nat → Value) (w : World) (h : s15_p8 K (s 0) (s 3) (s 9) (s 10) w) : Tr (s15_p8_den K s w) :=
  tr_cond (v := ev s (.tmp 10)) (a := (fun s w => s15_p2 K (s 0) (s 3) w) s w) (a' := (s15_p2_den K) s w) (b := (fun s w => s15_p7 K (s 0) (s 3) (s 9) w) s w) (b' := (s15_p7_den K) s w) (p := s15_p8 K (s 0) (s 3) (s 9) (s 10) w) (q := s15_p8_den K s w) ((fun s w h => s15_p2_ok K s w @h) s w) ((fun s w h => s15_p7_ok K s w @h) s w) (by kernel_rfl) (by kernel_rfl) @h
def s15_p9 (K : Value → World → Prop) (t0 t3 t9 : Value) (w : World) : Prop :=
  boI .eql t9 (.int .i64 0) (fun t11 w =>
  s15_p8 K t0 t3 t9 t11 w) w
def s15_p9_den (K : Value → World → Prop) : (Nat → Value) → World → Prop := denL Try.prog [(cd (Try.f15.body.getD .skip) [1, 0, 1, 0, 0])] (s15_p8_den K) (fun i => (bif Nat.beq i 0 then (s15_p1_den K) else (fun _ _ => False))) (s15_R K)
theorem s15_p9_ok (K : Value → World → Prop) (s : Nat → Value) (w : World) (h : s15_p9 K (s 0) (s 3) (s 9) w) : Tr (s15_p9_den K s w) :=
  tr_simple (P := Try.prog) (codes := [(cd (Try.f15.body.getD .skip) [1, 0, 1, 0, 0])]) (N := (fun s w => s15_p8 K (s 0) (s 3) (s 9) (s 10) w)) (N' := (s15_p8_den K)) (X := (fun i => (bif Nat.beq i 0 then (fun s w => s15_p1 K w) else (fun _ _ => False)))) (X' := (fun i => (bif Nat.beq i 0 then (s15_p1_den K) else (fun _ _ => False)))) (R := s15_R K) (s := s) (w := w) (p := s15_p9 K (s 0) (s 3) (s 9) w) (q := s15_p9_den K s w) (fun s w h => s15_p8_ok K s w @h) (fun i => (tr_bif (fun s w h => s15_p1_ok K s w @h) tr_id)) (by kernel_rfl) (by kernel_rfl) @h
def s15_p10 (K : Value → World → Prop) (t0 t1 : Value) (w : World) : Prop :=
  nw 34 (t1).cells (fun t3 w =>
  fd 0 t3 (fun t8 w =>
  ld1 t8 (fun t9 w =>
  s15_p9 K t0 t3 t9 w) w) w) w
def s15_p10_den (K : Value → World → Prop) : (Nat → Value) → World → Prop := denL Try.prog [(cd (Try.f15.body.getD .skip) [0]), (cd (Try.f15.body.getD .skip) [1, 0, 0])] (s15_p9_den K) (fun i => (fun _ _ => False)) (s15_R K)
theorem s15_p10_ok (K : Value → World → Prop) (s : Nat → Value) (w : World) (h : s15_p10 K (s 0) (s 1) w) : Tr (s15_p10_den K s w) :=
  tr_simple (P := Try.prog) (codes := [(cd (Try.f15.body.getD .skip) [0]), (cd (Try.f15.body.getD .skip) [1, 0, 0])]) (N := (fun s w => s15_p9 K (s 0) (s 3) (s 9) w)) (N' := (s15_p9_den K)) (X := (fun i => (fun _ _ => False))) (X' := (fun i => (fun _ _ => False))) (R := s15_R K) (s := s) (w := w) (p := s15_p10 K (s 0) (s 1) w) (q := s15_p10_den K s w) (fun s w h => s15_p9_ok K s w @h) (fun i => tr_id) (by kernel_rfl) (by kernel_rfl) @h
/-- the call, from the text -/
theorem c15 (t0 t1 : Value) {K : Value → World → Prop} {w : World} (h : s15_p10 K t0 t1 w) : cl Try.prog 15 #[t0, t1] K w :=
  calls_of_tr (c := (Try.f15.body.getD .skip)) (fn := Try.f15) (q := s15_p10_den K (st0 #[t0, t1]) w) Try.func15 (by kernel_rfl) (by kernel_rfl) (Nat.le_of_ble_eq_true (by kernel_rfl)) (by kernel_rfl) (by kernel_rfl) (s15_p10_ok K (st0 #[t0, t1]) w @h)

/-! ### function 16 : e2e.disklaw.sameBytes -/
def s16_R (K : Value → World → Prop) (s : Nat → Value) (w : World) : Prop := retv Try.prog s Try.f16.results.toList (fun vs => K (pack vs) w) w
def s16_p1 (K : Value → World → Prop) (w : World) : Prop :=
  K (.bool true) w
def s16_p1_den (K : Value → World → Prop) : (Nat → Value) → World → Prop := denL Try.prog [(cd (Try.f16.body.getD .skip) [1, 1, 1, 0]), (cd (Try.f16.body.getD .skip) [1, 1, 1, 1])] (fun _ _ => False) (fun i => (fun _ _ => False)) (s16_R K)
theorem s16_p1_ok (K : Value → World → Prop) (s : Nat → Value) (w : World) (h : s16_p1 K w) : Tr (s16_p1_den K s w) :=
  tr_simple (P := Try.prog) (codes := [(cd (Try.f16.body.getD .skip) [1, 1, 1, 0]), (cd (Try.f16.body.getD .skip) [1, 1, 1, 1])]) (N := (fun _ _ => False)) (N' := (fun _ _ => False)) (X := (fun i => (fun _ _ => False))) (X' := (fun i => (fun _ _ => False))) (R := s16_R K) (s := s) (w := w) (p := s16_p1 K w) (q := s16_p1_den K s w) tr_id (fun i => tr_id) (by kernel_rfl) (by kernel_rfl) @h
def s16_p2 (K : Value → World → Prop) (B1 : List Value → World → Prop) (t0 t1 t12 t13 : Value) (w : World) : Prop :=
  boI .add t13 (.int .i64 1) (fun t25 w =>
  B1 [t0, t1, t12, t25] w) w
def s16_p2_den (K : Value → World → Prop) (M1 : (Nat → Value) → World → Prop) : (Nat → Value) → World → Prop := denL Try.prog [(cd (Try.f16.body.getD .skip) [1, 1, 0, 1, 0, 0, 1, 1, 1])] M1 (fun i => (bif Nat.beq i 0 then (s16_p1_den K) else (fun _ _ => False))) (s16_R K)
theorem s16_p2_ok (K : Value → World → Prop) (B1 : List Value → World → Prop) (s : Nat → Value) (w : World) (h : s16_p2 K B1 (s 0) (s 1) (s 12) (s 13) w) : Tr (s16_p2_den K (fun s w => B1 [s 0, s 1, s 12, s 13] w) s w) :=
  tr_simple (P := Try.prog) (codes := [(cd (Try.f16.body.getD .skip) [1, 1, 0, 1, 0, 0, 1, 1, 1])]) (N := (fun s w => B1 [s 0, s 1, s 12, s 13] w)) (N' := (fun s w => B1 [s 0, s 1, s 12, s 13] w)) (X := (fun i => (bif Nat.beq i 0 then (fun s w => s16_p1 K w) else (fun _ _ => False)))) (X' := (fun i => (bif Nat.beq i 0 then (s16_p1_den K) else (fun _ _ => False)))) (R := s16_R K) (s := s) (w := w) (p := s16_p2 K B1 (s 0) (s 1) (s 12) (s 13) w) (q := s16_p2_den K (fun s w => B1 [s 0, s 1, s 12, s 13] w) s w) tr_id (fun i => (tr_bif (fun s w h => s16_p1_ok K s w @h) tr_id)) (by kernel_rfl) (by kernel_rfl) @h
def s16_p3 (K : Value → World → Prop) (B1 : List Value → World → Prop) (t0 t1 t12 t13 t24 : Value) (w : World) : Prop :=
  ifb t24
  (K (.bool false) w)
  (s16_p2 K B1 t0 t1 t12 t13 w)
def s16_p3_den (K : Value → World → Prop) (M1 : (Nat → Value) → World → Prop) : (Nat → Value) → World → Prop := denL Try.prog [(cd (Try.f16.body.getD .skip) [1, 1, 0, 1, 0, 0, 1, 1, 0, 0, 1, 1])] (s16_p2_den K M1) (fun i => (bif Nat.beq i 1 then (s16_p2_den K M1) else (bif Nat.beq i 0 then (s16_p1_den K) else (fun _ _ => False)))) (s16_R K)
theorem s16_p3_ok (K : Value → World → Prop) (B1 : List Value → World → Prop) (s : Nat → Value) (w : World) (h : s16_p3 K B1 (s 0) (s 1) (s 12) (s 13) (s 24) w) : Tr (s16_p3_den K (fun s w => B1 [s 0, s 1, s 12, s 13] w) s w) :=
  tr_simple (P := Try.prog) (codes := [(cd (Try.f16.body.getD .skip) [1, 1, 0, 1, 0, 0, 1, 1, 0, 0, 1, 1])]) (N := (fun s w => s16_p2 K B1 (s 0) (s 1) (s 12) (s 13) w)) (N' := (s16_p2_den K (fun s w => B1 [s 0, s 1, s 12, s 13] w))) (X := (fun i => (bif Nat.beq i 1 then (fun s w => s16_p2 K B1 (s 0) (s 1) (s 12) (s 13) w) else (bif Nat.beq i 0 then (fun s w => s16_p1 K w) else (fun _ _ => False))))) (X' := (fun i => (bif Nat.beq i 1 then (s16_p2_den K (fun s w => B1 [s 0, s 1, s 12, s 13] w)) else (bif Nat.beq i 0 then (s16_p1_den K) else (fun _ _ => False))))) (R := s16_R K) (s := s) (w := w) (p := s16_p3 K B1 (s 0) (s 1) (s 12) (s 13) (s 24) w) (q := s16_p3_den K (fun s w => B1 [s 0, s 1, s 12, s 13] w) s w) (fun s w h => s16_p2_ok K B1 s w @h) (fun i => (tr_bif (fun s w h => s16_p2_ok K B1 s w @h) (tr_bif (fun s w h => s16_p1_ok K s w @h) tr_id))) (by kernel_rfl) (by kernel_rfl) @h
def s16_p4_d (K : Value → World → Prop) (B1 : List Value → World → Prop) (t0 t1 t5 t12 t13 : Value) (w0 w : World) : Prop :=
  ixs 1 t0 t5 (fun t18 _ =>
  ld1 t18 (fun t19 _ =>
  ixs 1 t1 t5 (fun t22 _ =>
  ld1 t22 (fun t23 _ =>
  boI .neq t19 t23 (fun t24 _ =>
  s16_p3 K B1 t0 t1 t12 t13 t24 w) w0) w0) w0) w0) w0
def s16_p4 (K : Value → World → Prop) (B1 : List Value → World → Prop) (t0 t1 t5 t12 t13 : Value) (w : World) : Prop := s16_p4_d K B1 t0 t1 t5 t12 t13 (drw w) (drw w)
def s16_p4_den (K : Value → World → Prop) (M1 : (Nat → Value) → World → Prop) : (Nat → Value) → World → Prop := denL Try.prog [(cd (Try.f16.body.getD .skip) [1, 1, 0, 1, 0, 0, 1, 1, 0, 0, 1, 0])] (s16_p3_den K M1) (fun i => (bif Nat.beq i 1 then (s16_p2_den K M1) else (bif Nat.beq i 0 then (s16_p1_den K) else (fun _ _ => False)))) (s16_R K)
theorem s16_p4_ok (K : Value → World → Prop) (B1 : List Value → World → Prop) (s : Nat → Value) (w : World) (h : s16_p4 K B1 (s 0) (s 1) (s 5) (s 12) (s 13) w) : Tr (s16_p4_den K (fun s w => B1 [s 0, s 1, s 12, s 13] w) s w) :=
  tr_draw (P := Try.prog) (ops := (ro (cd (Try.f16.body.getD .skip) [1, 1, 0, 1, 0, 0, 1, 1, 0, 0, 1, 0]))) (ms := [0, 0, 3, 7, 0, 0, 48, 112, 255]) (cs := [0, 1, 2, 3, 4, 5, 6, 7, 8]) (N := (fun s w => s16_p3 K B1 (s 0) (s 1) (s 12) (s 13) (s 24) w)) (N' := (s16_p3_den K (fun s w => B1 [s 0, s 1, s 12, s 13] w))) (s := s) (w := w) (p := s16_p4 K B1 (s 0) (s 1) (s 5) (s 12) (s 13) w) (q := s16_p4_den K (fun s w => B1 [s 0, s 1, s 12, s 13] w) s w) (by kernel_rfl) (by kernel_rfl) (fun s w h => s16_p3_ok K B1 s w @h) (by kernel_rfl) (by kernel_rfl) @h
def s16_p5 (K : Value → World → Prop) (B1 : List Value → World → Prop) (t0 t1 t12 t13 : Value) (w : World) : Prop :=
  s16_p4 K B1 t0 t1 t13 t12 t13 w
def s16_p5_den (K : Value → World → Prop) (M1 : (Nat → Value) → World → Prop) : (Nat → Value) → World → Prop := denL Try.prog [(cd (Try.f16.body.getD .skip) [1, 1, 0, 1, 0, 0, 1, 1, 0, 0, 0])] (s16_p4_den K M1) (fun i => (bif Nat.beq i 1 then (s16_p2_den K M1) else (bif Nat.beq i 0 then (s16_p1_den K) else (fun _ _ => False)))) (s16_R K)
theorem s16_p5_ok (K : Value → World → Prop) (B1 : List Value → World → Prop) (s : Nat → Value) (w : World) (h : s16_p5 K B1 (s 0) (s 1) (s 12) (s 13) w) : Tr (s16_p5_den K (fun s w => B1 [s 0, s 1, s 12, s 13] w) s w) :=
  tr_simple (P := Try.prog) (codes := [(cd (Try.f16.body.getD .skip) [1, 1, 0, 1, 0, 0, 1, 1, 0, 0, 0])]) (N := (fun s w => s16_p4 K B1 (s 0) (s 1) (s 5) (s 12) (s 13) w)) (N' := (s16_p4_den K (fun s w => B1 [s 0, s 1, s 12, s 13] w))) (X := (fun i => (bif Nat.beq i 1 then (fun s w => s16_p2 K B1 (s 0) (s 1) (s 12) (s 13) w) else (bif Nat.beq i 0 then (fun s w => s16_p1 K w) else (fun _ _ => False))))) (X' := (fun i => (bif Nat.beq i 1 then (s16_p2_den K (fun s w => B1 [s 0, s 1, s 12, s 13] w)) else (bif Nat.beq i 0 then (s16_p1_den K) else (fun _ _ => False))))) (R := s16_R K) (s := s) (w := w) (p := s16_p5 K B1 (s 0) (s 1) (s 12) (s 13) w) (q := s16_p5_den K (fun s w => B1 [s 0, s 1, s 12, s 13] w) s w) (fun s w h => s16_p4_ok K B1 s w @h) (fun i => (tr_bif (fun s w h => s16_p2_ok K B1 s w @h) (tr_bif (fun s w h => s16_p1_ok K s w @h) tr_id))) (by kernel_rfl) (by kernel_rfl) @h
def s16_p6 (K : Value → World → Prop) (B1 : List Value → World → Prop) (t0 t1 t12 t13 : Value) (w : World) : Prop :=
  boI .lss t13 t12 (fun t14 w =>
  ifb t14
  (s16_p5 K B1 t0 t1 t12 t13 w)
  (s16_p1 K w)) w
def s16_p6_den (K : Value → World → Prop) (M1 : (Nat → Value) → World → Prop) : (Nat → Value) → World → Prop := denL Try.prog [(cd (Try.f16.body.getD .skip) [1, 1, 0, 1, 0, 0, 0]), (cd (Try.f16.body.getD .skip) [1, 1, 0, 1, 0, 0, 1, 0])] (s16_p5_den K M1) (fun i => (bif Nat.beq i 0 then (s16_p1_den K) else (fun _ _ => False))) (s16_R K)
theorem s16_p6_ok (K : Value → World → Prop) (B1 : List Value → World → Prop) (s : Nat → Value) (w : World) (h : s16_p6 K B1 (s 0) (s 1) (s 12) (s 13) w) : Tr (s16_p6_den K (fun s w => B1 [s 0, s 1, s 12, s 13] w) s w) :=
  tr_simple (P := Try.prog) (codes := [(cd (Try.f16.body.getD .skip) [1, 1, 0, 1, 0, 0, 0]), (cd (Try.f16.body.getD .skip) [1, 1, 0, 1, 0, 0, 1, 0])]) (N := (fun s w => s16_p5 K B1 (s 0) (s 1) (s 12) (s 13) w)) (N' := (s16_p5_den K (fun s w => B1 [s 0, s 1, s 12, s 13] w))) (X := (fun i => (bif Nat.beq i 0 then (fun s w => s16_p1 K w) else (fun _ _ => False)))) (X' := (fun i => (bif Nat.beq i 0 then (s16_p1_den K) else (fun _ _ => False)))) (R := s16_R K) (s := s) (w := w) (p := s16_p6 K B1 (s 0) (s 1) (s 12) (s 13) w) (q := s16_p6_den K (fun s w => B1 [s 0, s 1, s 12, s 13] w) s w) (fun s w h => s16_p5_ok K B1 s w @h) (fun i => (tr_bif (fun s w h => s16_p1_ok K s w @h) tr_id)) (by kernel_rfl) (by kernel_rfl) @h
def s16_p7_F (K : Value → World → Prop) (B1 : List Value → World → Prop) (l : List Value) (w : World) : Prop :=
  match l with
  | [t0, t1, t12, t13] => s16_p6 K B1 t0 t1 t12 t13 w
  | _ => False
theorem s16_p7_Fe {K : Value → World → Prop} {B1 : List Value → World → Prop} {t0 t1 t12 t13 : Value} {w : World} : s16_p7_F K B1 [t0, t1, t12, t13] w = s16_p6 K B1 t0 t1 t12 t13 w := by kernel_rfl
def s16_p7 (K : Value → World → Prop) (t0 t1 t12 t13 : Value) (w : World) : Prop :=
  LoopL (s16_p7_F K) [t0, t1, t12, t13] w
def s16_p7_den (K : Value → World → Prop) : (Nat → Value) → World → Prop := fun s w => LoopP (fun M1 s w => s16_p6_den K M1 s w) s w
theorem s16_p7_ok (K : Value → World → Prop) (s : Nat → Value) (w : World) (h : s16_p7 K (s 0) (s 1) (s 12) (s 13) w) : Tr (s16_p7_den K s w) :=
  tr_loop (G := fun N' s w => s16_p6_den K N' s w) (F := s16_p7_F K) (sel := fun s => [s 0, s 1, s 12, s 13]) (s := s) (w := w) (p := s16_p7 K (s 0) (s 1) (s 12) (s 13) w) (q := s16_p7_den K s w) (fun B s w h => s16_p6_ok K B s w @h) (by kernel_rfl) (by kernel_rfl) @h
def s16_p8 (K : Value → World → Prop) (t0 t1 : Value) (w : World) : Prop :=
  lnS t0 (fun t7 w =>
  lnS t1 (fun t9 w =>
  boI .neq t7 t9 (fun t10 w =>
  ifb t10
  (K (.bool false) w)
  (lnS t0 (fun t12 w =>
  s16_p7 K t0 t1 t12 (.int .i64 0) w) w)) w) w) w
def s16_p8_den (K : Value → World → Prop) : (Nat → Value) → World → Prop := denL Try.prog [(cd (Try.f16.body.getD .skip) [0]), (cd (Try.f16.body.getD .skip) [1, 0, 0]), (cd (Try.f16.body.getD .skip) [1, 0, 1]), (cd (Try.f16.body.getD .skip) [1, 1, 0, 0])] (s16_p7_den K) (fun i => (fun _ _ => False)) (s16_R K)
theorem s16_p8_ok (K : Value → World → Prop) (s : Nat → Value) (w : World) (h : s16_p8 K (s 0) (s 1) w) : Tr (s16_p8_den K s w) :=
  tr_simple (P := Try.prog) (codes := [(cd (Try.f16.body.getD .skip) [0]), (cd (Try.f16.body.getD .skip) [1, 0, 0]), (cd (Try.f16.body.getD .skip) [1, 0, 1]), (cd (Try.f16.body.getD .skip) [1, 1, 0, 0])]) (N := (fun s w => s16_p7 K (s 0) (s 1) (s 12) (s 13) w)) (N' := (s16_p7_den K)) (X := (fun i => (fun _ _ => False))) (X' := (fun i => (fun _ _ => False))) (R := s16_R K) (s := s) (w := w) (p := s16_p8 K (s 0) (s 1) w) (q := s16_p8_den K s w) (fun s w h => s16_p7_ok K s w @h) (fun i => tr_id) (by kernel_rfl) (by kernel_rfl) @h
/-- the call, from the text -/
theorem c16 (t0 t1 : Value) {K : Value → World → Prop} {w : World} (h : s16_p8 K t0 t1 w) : cl Try.prog 16 #[t0, t1] K w :=
  calls_of_tr (c := (Try.f16.body.getD .skip)) (fn := Try.f16) (q := s16_p8_den K (st0 #[t0, t1]) w) Try.func16 (by kernel_rfl) (by kernel_rfl) (Nat.le_of_ble_eq_true (by kernel_rfl)) (by kernel_rfl) (by kernel_rfl) (s16_p8_ok K (st0 #[t0, t1]) w @h)

/-! ### function 17 : e2e.disklaw.same -/
def s17_R (K : Value → World → Prop) (s : Nat → Value) (w : World) : Prop := retv Try.prog s Try.f17.results.toList (fun vs => K (pack vs) w) w
def s17_p1 (K : Value → World → Prop) (t0 t1 : Value) (w : World) : Prop :=
  nw 45 (t0).cells (fun t2 w =>
  nw 45 (t1).cells (fun t3 w =>
  ldn 13 t2 (fun t5 w =>
  ldn 13 t3 (fun t6 w =>
  cl Try.prog 33 #[t5, t6] (fun t7 w =>
  gd t7 true (fd 6 t2) (fun t9 w =>
  gd t7 true (ldn 5 t9) (fun t10 w =>
  gd t7 true (fd 6 t3) (fun t11 w =>
  gd t7 true (ldn 5 t11) (fun t12 w =>
  gd t7 true (bor Try.prog .eql 42 (.tmp 10) (.tmp 12) t10 t12) (fun t13 w =>
  pk t7 t13 (.bool false) (fun t14 w =>
  gd t14 true (fd 1 t2) (fun t16 w =>
  gd t14 true (ld1 t16) (fun t17 w =>
  gd t14 true (fd 1 t3) (fun t18 w =>
  gd t14 true (ld1 t18) (fun t19 w =>
  gd t14 true (boI .eql t17 t19) (fun t20 w =>
  pk t14 t20 (.bool false) (fun t21 w =>
  gd t21 true (fd 2 t2) (fun t23 w =>
  gd t21 true (fd 1 t23) (fun t24 w =>
  gd t21 true (ld1 t24) (fun t25 w =>
  gd t21 true (fd 2 t3) (fun t26 w =>
  gd t21 true (fd 1 t26) (fun t27 w =>
  gd t21 true (ld1 t27) (fun t28 w =>
  gd t21 true (boI .eql t25 t28) (fun t29 w =>
  pk t21 t29 (.bool false) (fun t30 w =>
  gd t30 true (fd 2 t2) (fun t32 w =>
  gd t30 true (fd 2 t32) (fun t33 w =>
  gd t30 true (ld1 t33) (fun t34 w =>
  gd t30 true (fd 2 t3) (fun t35 w =>
  gd t30 true (fd 2 t35) (fun t36 w =>
  gd t30 true (ld1 t36) (fun t37 w =>
  gd t30 true (boI .eql t34 t37) (fun t38 w =>
  pk t30 t38 (.bool false) (fun t39 w =>
  gd t39 true (fd 2 t2) (fun t41 w =>
  gd t39 true (fd 0 t41) (fun t42 w =>
  gd t39 true (ld1 t42) (fun t43 w =>
  gd t39 true (fd 2 t3) (fun t44 w =>
  gd t39 true (fd 0 t44) (fun t45 w =>
  gd t39 true (ld1 t45) (fun t46 w =>
  gd t39 true (cl Try.prog 47 #[t43, t46]) (fun t47 w =>
  pk t39 t47 (.bool false) (fun t48 w =>
  K t48 w) w) w) w) w) w) w) w) w) w) w) w) w) w) w) w) w) w) w) w) w) w) w) w) w) w) w) w) w) w) w) w) w) w) w) w) w) w) w) w) w) w
def s17_p1_den (K : Value → World → Prop) : (Nat → Value) → World → Prop := denL Try.prog [(cd (Try.f17.body.getD .skip) [0]), (cd (Try.f17.body.getD .skip) [1, 0]), (cd (Try.f17.body.getD .skip) [1, 1])] (fun _ _ => False) (fun i => (fun _ _ => False)) (s17_R K)
theorem s17_p1_ok (K : Value → World → Prop) (s : Nat → Value) (w : World) (h : s17_p1 K (s 0) (s 1) w) : Tr (s17_p1_den K s w) :=
  tr_simple (P := Try.prog) (codes := [(cd (Try.f17.body.getD .skip) [0]), (cd (Try.f17.body.getD .skip) [1, 0]), (cd (Try.f17.body.getD .skip) [1, 1])]) (N := (fun _ _ => False)) (N' := (fun _ _ => False)) (X := (fun i => (fun _ _ => False))) (X' := (fun i => (fun _ _ => False))) (R := s17_R K) (s := s) (w := w) (p := s17_p1 K (s 0) (s 1) w) (q := s17_p1_den K s w) tr_id (fun i => tr_id) (by kernel_rfl) (by kernel_rfl) @h
/-- the call, from the text -/
theorem c17 (t0 t1 : Value) {K : Value → World → Prop} {w : World} (h : s17_p1 K t0 t1 w) : cl Try.prog 17 #[t0, t1] K w :=
  calls_of_tr (c := (Try.f17.body.getD .skip)) (fn := Try.f17) (q := s17_p1_den K (st0 #[t0, t1]) w) Try.func17 (by kernel_rfl) (by kernel_rfl) (Nat.le_of_ble_eq_true (by kernel_rfl)) (by kernel_rfl) (by kernel_rfl) (s17_p1_ok K (st0 #[t0, t1]) w @h)

/-! ### function 18 : e2e.disklaw.look -/
def s18_R (K : Value → World → Prop) (s : Nat → Value) (w : World) : Prop := retv Try.prog s Try.f18.results.toList (fun vs => K (pack vs) w) w
def s18_p1 (K : Value → World → Prop) (t2 t3 t4 : Value) (w : World) : Prop :=
  cl Try.prog 22 #[t4] (fun t26 w =>
  fd 11 t3 (fun t27 w =>
  st1 t27 t26 (fun w =>
  bdq [(.slice none 0 0), (.int .i64 0), (.int .i64 0)] [(some (1, 1), (.int .i64 (-1)))] (fun t29 w =>
  cl Try.prog 30 #[t4, t29] (fun t30 w =>
  cl Try.prog 26 #[t4] (fun t32 w =>
  cl Try.prog 22 #[t4] (fun t34 w =>
  fd 12 t3 (fun t35 w =>
  st1 t35 t34 (fun w =>
  ldn 13 t3 (fun t36 w =>
  stn 13 t2 t36 (fun w =>
  ldn 13 t2 (fun r0 _ =>
  K r0 w) w) w) w) w) w) w) w) w) w) w) w) w
def s18_p1_den (K : Value → World → Prop) : (Nat → Value) → World → Prop := denL Try.prog [(cd (Try.f18.body.getD .skip) [1, 1, 1, 1, 1, 0]), (cd (Try.f18.body.getD .skip) [1, 1, 1, 1, 1, 1, 0]), (cd (Try.f18.body.getD .skip) [1, 1, 1, 1, 1, 1, 1, 0]), (cd (Try.f18.body.getD .skip) [1, 1, 1, 1, 1, 1, 1, 1, 0]), (cd (Try.f18.body.getD .skip) [1, 1, 1, 1, 1, 1, 1, 1, 1, 0]), (cd (Try.f18.body.getD .skip) [1, 1, 1, 1, 1, 1, 1, 1, 1, 1])] (fun _ _ => False) (fun i => (fun _ _ => False)) (s18_R K)
theorem s18_p1_ok (K : Value → World → Prop) (s : Nat → Value) (w : World) (h : s18_p1 K (s 2) (s 3) (s 4) w) : Tr (s18_p1_den K s w) :=
  tr_simple (P := Try.prog) (codes := [(cd (Try.f18.body.getD .skip) [1, 1, 1, 1, 1, 0]), (cd (Try.f18.body.getD .skip) [1, 1, 1, 1, 1, 1, 0]), (cd (Try.f18.body.getD .skip) [1, 1, 1, 1, 1, 1, 1, 0]), (cd (Try.f18.body.getD .skip) [1, 1, 1, 1, 1, 1, 1, 1, 0]), (cd (Try.f18.body.getD .skip) [1, 1, 1, 1, 1, 1, 1, 1, 1, 0]), (cd (Try.f18.body.getD .skip) [1, 1, 1, 1, 1, 1, 1, 1, 1, 1])]) (N := (fun _ _ => False)) (N' := (fun _ _ => False)) (X := (fun i => (fun _ _ => False))) (X' := (fun i => (fun _ _ => False))) (R := s18_R K) (s := s) (w := w) (p := s18_p1 K (s 2) (s 3) (s 4) w) (q := s18_p1_den K s w) tr_id (fun i => tr_id) (by kernel_rfl) (by kernel_rfl) @h
def s18_p2 (K : Value → World → Prop) (t0 : Value) (w : World) : Prop :=
  nw 45 #[(.bool false), (.int .i64 0), (.slice none 0 0), (.int .i64 0), (.int .i64 0), (.slice none 0 0), (.int .i64 0), (.int .i64 0), (.int .i64 0), (.int .i64 0), (.int .i64 0), (.slice none 0 0), (.slice none 0 0)] (fun t2 w =>
  cl Try.prog 20 #[t0] (fun t6 w =>
  cl Try.prog 48 #[t0] (fun t8 w =>
  cl Try.prog 49 #[t0] (fun t10 w =>
  bdq [(.bool false), (.int .i64 0), (.slice none 0 0), (.int .i64 0), (.int .i64 0), (.slice none 0 0), (.int .i64 0), (.int .i64 0), (.int .i64 0), (.int .i64 0), (.int .i64 0), (.slice none 0 0), (.slice none 0 0)] [(some (0, 1), t6), (some (5, 1), t8), (some (6, 5), t10)] (fun t11 w =>
  nw 45 #[(.bool false), (.int .i64 0), (.slice none 0 0), (.int .i64 0), (.int .i64 0), (.slice none 0 0), (.int .i64 0), (.int .i64 0), (.int .i64 0), (.int .i64 0), (.int .i64 0), (.slice none 0 0), (.slice none 0 0)] (fun t3 w =>
  stn 13 t3 t11 (fun w =>
  cl Try.prog 23 #[t0] (fun t14 w =>
  exq t14 0 (fun t15 w =>
  exq t14 1 (fun t16 w =>
  fd 1 t3 (fun t17 w =>
  st1 t17 t15 (fun w =>
  fd 2 t3 (fun t18 w =>
  stn 3 t18 t16 (fun w =>
  cl Try.prog 25 #[t0] (fun t20 w =>
  fd 0 t3 (fun t21 w =>
  ld1 t21 (fun t22 w =>
  ifb t22
  (cl Try.prog 26 #[t20] (fun t24 w =>
  s18_p1 K t2 t3 t20 w) w)
  (s18_p1 K t2 t3 t20 w)) w) w) w) w) w) w) w) w) w) w) w) w) w) w) w) w) w
def s18_p2_den (K : Value → World → Prop) : (Nat → Value) → World → Prop := denL Try.prog [(cd (Try.f18.body.getD .skip) [0]), (cd (Try.f18.body.getD .skip) [1, 0]), (cd (Try.f18.body.getD .skip) [1, 1, 0]), (cd (Try.f18.body.getD .skip) [1, 1, 1, 0]), (cd (Try.f18.body.getD .skip) [1, 1, 1, 1, 0, 0]), (cd (Try.f18.body.getD .skip) [1, 1, 1, 1, 0, 1])] (s18_p1_den K) (fun i => (fun _ _ => False)) (s18_R K)
theorem s18_p2_ok (K : Value → World → Prop) (s : Nat → Value) (w : World) (h : s18_p2 K (s 0) w) : Tr (s18_p2_den K s w) :=
  tr_simple (P := Try.prog) (codes := [(cd (Try.f18.body.getD .skip) [0]), (cd (Try.f18.body.getD .skip) [1, 0]), (cd (Try.f18.body.getD .skip) [1, 1, 0]), (cd (Try.f18.body.getD .skip) [1, 1, 1, 0]), (cd (Try.f18.body.getD .skip) [1, 1, 1, 1, 0, 0]), (cd (Try.f18.body.getD .skip) [1, 1, 1, 1, 0, 1])]) (N := (fun s w => s18_p1 K (s 2) (s 3) (s 4) w)) (N' := (s18_p1_den K)) (X := (fun i => (fun _ _ => False))) (X' := (fun i => (fun _ _ => False))) (R := s18_R K) (s := s) (w := w) (p := s18_p2 K (s 0) w) (q := s18_p2_den K s w) (fun s w h => s18_p1_ok K s w @h) (fun i => tr_id) (by kernel_rfl) (by kernel_rfl) @h
/-- the call, from the text -/
theorem c18 (t0 : Value) {K : Value → World → Prop} {w : World} (h : s18_p2 K t0 w) : cl Try.prog 18 #[t0] K w :=
  calls_of_tr (c := (Try.f18.body.getD .skip)) (fn := Try.f18) (q := s18_p2_den K (st0 #[t0]) w) Try.func18 (by kernel_rfl) (by kernel_rfl) (Nat.le_of_ble_eq_true (by kernel_rfl)) (by kernel_rfl) (by kernel_rfl) (s18_p2_ok K (st0 #[t0]) w @h)

/-! ### function 19 : e2e.disklaw.lookModel -/
def s19_R (K : Value → World → Prop) (s : Nat → Value) (w : World) : Prop := retv Try.prog s Try.f19.results.toList (fun vs => K (pack vs) w) w
def s19_p1 (K : Value → World → Prop) (t2 t3 : Value) (w : World) : Prop :=
  ldn 13 t3 (fun t58 w =>
  stn 13 t2 t58 (fun w =>
  ldn 13 t2 (fun r0 _ =>
  K r0 w) w) w) w
def s19_p1_den (K : Value → World → Prop) : (Nat → Value) → World → Prop := denL Try.prog [(cd (Try.f19.body.getD .skip) [1, 1, 1, 0]), (cd (Try.f19.body.getD .skip) [1, 1, 1, 1])] (fun _ _ => False) (fun i => (fun _ _ => False)) (s19_R K)
theorem s19_p1_ok (K : Value → World → Prop) (s : Nat → Value) (w : World) (h : s19_p1 K (s 2) (s 3) w) : Tr (s19_p1_den K s w) :=
  tr_simple (P := Try.prog) (codes := [(cd (Try.f19.body.getD .skip) [1, 1, 1, 0]), (cd (Try.f19.body.getD .skip) [1, 1, 1, 1])]) (N := (fun _ _ => False)) (N' := (fun _ _ => False)) (X := (fun i => (fun _ _ => False))) (X' := (fun i => (fun _ _ => False))) (R := s19_R K) (s := s) (w := w) (p := s19_p1 K (s 2) (s 3) w) (q := s19_p1_den K s w) tr_id (fun i => tr_id) (by kernel_rfl) (by kernel_rfl) @h
def s19_p2 (K : Value → World → Prop) (B1 : List Value → World → Prop) (t0 t2 t3 t4 : Value) (w : World) : Prop :=
  boI .add t4 (.int .i64 1) (fun t25 w =>
  B1 [t0, t2, t3, t25] w) w
def s19_p2_den (K : Value → World → Prop) (M1 : (Nat → Value) → World → Prop) : (Nat → Value) → World → Prop := denL Try.prog [(cd (Try.f19.body.getD .skip) [1, 1, 0, 1, 0, 0, 1, 1])] M1 (fun i => (bif Nat.beq i 0 then (s19_p1_den K) else (fun _ _ => False))) (s19_R K)
theorem s19_p2_ok (K : Value → World → Prop) (B1 : List Value → World → Prop) (s : Nat → Value) (w : World) (h : s19_p2 K B1 (s 0) (s 2) (s 3) (s 4) w) : Tr (s19_p2_den K (fun s w => B1 [s 0, s 2, s 3, s 4] w) s w) :=
  tr_simple (P := Try.prog) (codes := [(cd (Try.f19.body.getD .skip) [1, 1, 0, 1, 0, 0, 1, 1])]) (N := (fun s w => B1 [s 0, s 2, s 3, s 4] w)) (N' := (fun s w => B1 [s 0, s 2, s 3, s 4] w)) (X := (fun i => (bif Nat.beq i 0 then (fun s w => s19_p1 K (s 2) (s 3) w) else (fun _ _ => False)))) (X' := (fun i => (bif Nat.beq i 0 then (s19_p1_den K) else (fun _ _ => False)))) (R := s19_R K) (s := s) (w := w) (p := s19_p2 K B1 (s 0) (s 2) (s 3) (s 4) w) (q := s19_p2_den K (fun s w => B1 [s 0, s 2, s 3, s 4] w) s w) tr_id (fun i => (tr_bif (fun s w h => s19_p1_ok K s w @h) tr_id)) (by kernel_rfl) (by kernel_rfl) @h
def s19_p3_d (K : Value → World → Prop) (B1 : List Value → World → Prop) (t0 t2 t3 t4 : Value) (w0 w : World) : Prop :=
  fd 12 t3 (fun t47 _ =>
  ld1 t47 (fun t48 _ =>
  nck t0 (fun t51 _ =>
  fd 0 t51 (fun t52 _ =>
  ixa 12 1 t52 t4 (fun t53 _ =>
  ld1 t53 (fun t54 _ =>
  fd 12 t3 (fun t57 _ =>
  bsq 29 [(.slice none 0 0)] 1 [(some (0, 1), t54)] (fun t55 w =>
  Below w0.heap.size w0 w ∧
  apq 29 [(.slice none 0 0)] 24 t48 t55 (fun t56 w =>
  st1 t57 t56 (fun w =>
  s19_p2 K B1 t0 t2 t3 t4 w) w) w) w) w0) w0) w0) w0) w0) w0) w0
def s19_p3 (K : Value → World → Prop) (B1 : List Value → World → Prop) (t0 t2 t3 t4 : Value) (w : World) : Prop := s19_p3_d K B1 t0 t2 t3 t4 (drw w) (drw w)
def s19_p3_den (K : Value → World → Prop) (M1 : (Nat → Value) → World → Prop) : (Nat → Value) → World → Prop := denL Try.prog [(cd (Try.f19.body.getD .skip) [1, 1, 0, 1, 0, 0, 1, 0, 0, 1, 1])] (s19_p2_den K M1) (fun i => (bif Nat.beq i 1 then (s19_p2_den K M1) else (bif Nat.beq i 0 then (s19_p1_den K) else (fun _ _ => False)))) (s19_R K)
theorem s19_p3_ok (K : Value → World → Prop) (B1 : List Value → World → Prop) (s : Nat → Value) (w : World) (h : s19_p3 K B1 (s 0) (s 2) (s 3) (s 4) w) : Tr (s19_p3_den K (fun s w => B1 [s 0, s 2, s 3, s 4] w) s w) :=
  tr_draw (P := Try.prog) (ops := (ro (cd (Try.f19.body.getD .skip) [1, 1, 0, 1, 0, 0, 1, 0, 0, 1, 1]))) (ms := [0, 1, 0, 0, 4, 20, 60, 124, 252, 511, 1023, 2047]) (cs := [0, 1, 2, 3, 4, 5, 6, 7, 10]) (N := (fun s w => s19_p2 K B1 (s 0) (s 2) (s 3) (s 4) w)) (N' := (s19_p2_den K (fun s w => B1 [s 0, s 2, s 3, s 4] w))) (s := s) (w := w) (p := s19_p3 K B1 (s 0) (s 2) (s 3) (s 4) w) (q := s19_p3_den K (fun s w => B1 [s 0, s 2, s 3, s 4] w) s w) (by kernel_rfl) (by kernel_rfl) (fun s w h => s19_p2_ok K B1 s w @h) (by kernel_rfl) (by kernel_rfl) @h
def s19_p4_d (K : Value → World → Prop) (B1 : List Value → World → Prop) (t0 t2 t3 t4 : Value) (w0 w : World) : Prop :=
  fd 11 t3 (fun t39 _ =>
  ld1 t39 (fun t40 _ =>
  fd 11 t3 (fun t46 _ =>
  cl Try.prog 50 #[t0, t4] (fun t43 w =>
  Below w0.heap.size w0 w ∧
  bsq 29 [(.slice none 0 0)] 1 [(some (0, 1), t43)] (fun t44 w =>
  Below w0.heap.size w0 w ∧
  apq 29 [(.slice none 0 0)] 24 t40 t44 (fun t45 w =>
  st1 t46 t45 (fun w =>
  s19_p3 K B1 t0 t2 t3 t4 w) w) w) w) w) w0) w0) w0
def s19_p4 (K : Value → World → Prop) (B1 : List Value → World → Prop) (t0 t2 t3 t4 : Value) (w : World) : Prop := s19_p4_d K B1 t0 t2 t3 t4 (drw w) (drw w)
def s19_p4_den (K : Value → World → Prop) (M1 : (Nat → Value) → World → Prop) : (Nat → Value) → World → Prop := denL Try.prog [(cd (Try.f19.body.getD .skip) [1, 1, 0, 1, 0, 0, 1, 0, 0, 1, 0])] (s19_p3_den K M1) (fun i => (bif Nat.beq i 1 then (s19_p2_den K M1) else (bif Nat.beq i 0 then (s19_p1_den K) else (fun _ _ => False)))) (s19_R K)
theorem s19_p4_ok (K : Value → World → Prop) (B1 : List Value → World → Prop) (s : Nat → Value) (w : World) (h : s19_p4 K B1 (s 0) (s 2) (s 3) (s 4) w) : Tr (s19_p4_den K (fun s w => B1 [s 0, s 2, s 3, s 4] w) s w) :=
  tr_draw (P := Try.prog) (ops := (ro (cd (Try.f19.body.getD .skip) [1, 1, 0, 1, 0, 0, 1, 0, 0, 1, 0]))) (ms := [0, 1, 0, 0, 12, 28, 63, 127, 255]) (cs := [0, 1, 2, 3, 7]) (N := (fun s w => s19_p3 K B1 (s 0) (s 2) (s 3) (s 4) w)) (N' := (s19_p3_den K (fun s w => B1 [s 0, s 2, s 3, s 4] w))) (s := s) (w := w) (p := s19_p4 K B1 (s 0) (s 2) (s 3) (s 4) w) (q := s19_p4_den K (fun s w => B1 [s 0, s 2, s 3, s 4] w) s w) (by kernel_rfl) (by kernel_rfl) (fun s w h => s19_p3_ok K B1 s w @h) (by kernel_rfl) (by kernel_rfl) @h
def s19_p5 (K : Value → World → Prop) (B1 : List Value → World → Prop) (t0 t2 t3 t4 : Value) (w : World) : Prop :=
  nck t0 (fun t28 w =>
  fd 12 t28 (fun t29 w =>
  ixa 12 1 t29 t4 (fun t30 w =>
  ld1 t30 (fun t31 w =>
  boZ .neq t31 (.slice none 0 0) (fun t32 w =>
  ifb t32
  (fd 5 t3 (fun t33 w =>
  ld1 t33 (fun t34 w =>
  bsq 3 [(.int .i64 0)] 1 [(some (0, 1), t4)] (fun t36 w =>
  apq 3 [(.int .i64 0)] 8 t34 t36 (fun t37 w =>
  fd 5 t3 (fun t38 w =>
  st1 t38 t37 (fun w =>
  s19_p4 K B1 t0 t2 t3 t4 w) w) w) w) w) w) w)
  (s19_p4 K B1 t0 t2 t3 t4 w)) w) w) w) w) w
def s19_p5_den (K : Value → World → Prop) (M1 : (Nat → Value) → World → Prop) : (Nat → Value) → World → Prop := denL Try.prog [(cd (Try.f19.body.getD .skip) [1, 1, 0, 1, 0, 0, 1, 0, 0, 0, 0]), (cd (Try.f19.body.getD .skip) [1, 1, 0, 1, 0, 0, 1, 0, 0, 0, 1])] (s19_p4_den K M1) (fun i => (bif Nat.beq i 1 then (s19_p2_den K M1) else (bif Nat.beq i 0 then (s19_p1_den K) else (fun _ _ => False)))) (s19_R K)
theorem s19_p5_ok (K : Value → World → Prop) (B1 : List Value → World → Prop) (s : Nat → Value) (w : World) (h : s19_p5 K B1 (s 0) (s 2) (s 3) (s 4) w) : Tr (s19_p5_den K (fun s w => B1 [s 0, s 2, s 3, s 4] w) s w) :=
  tr_simple (P := Try.prog) (codes := [(cd (Try.f19.body.getD .skip) [1, 1, 0, 1, 0, 0, 1, 0, 0, 0, 0]), (cd (Try.f19.body.getD .skip) [1, 1, 0, 1, 0, 0, 1, 0, 0, 0, 1])]) (N := (fun s w => s19_p4 K B1 (s 0) (s 2) (s 3) (s 4) w)) (N' := (s19_p4_den K (fun s w => B1 [s 0, s 2, s 3, s 4] w))) (X := (fun i => (bif Nat.beq i 1 then (fun s w => s19_p2 K B1 (s 0) (s 2) (s 3) (s 4) w) else (bif Nat.beq i 0 then (fun s w => s19_p1 K (s 2) (s 3) w) else (fun _ _ => False))))) (X' := (fun i => (bif Nat.beq i 1 then (s19_p2_den K (fun s w => B1 [s 0, s 2, s 3, s 4] w)) else (bif Nat.beq i 0 then (s19_p1_den K) else (fun _ _ => False))))) (R := s19_R K) (s := s) (w := w) (p := s19_p5 K B1 (s 0) (s 2) (s 3) (s 4) w) (q := s19_p5_den K (fun s w => B1 [s 0, s 2, s 3, s 4] w) s w) (fun s w h => s19_p4_ok K B1 s w @h) (fun i => (tr_bif (fun s w h => s19_p2_ok K B1 s w @h) (tr_bif (fun s w h => s19_p1_ok K s w @h) tr_id))) (by kernel_rfl) (by kernel_rfl) @h
def s19_p6 (K : Value → World → Prop) (B1 : List Value → World → Prop) (t0 t2 t3 t4 : Value) (w : World) : Prop :=
  boI .lss t4 (.int .i64 12) (fun t23 w =>
  ifb t23
  (s19_p5 K B1 t0 t2 t3 t4 w)
  (s19_p1 K t2 t3 w)) w
def s19_p6_den (K : Value → World → Prop) (M1 : (Nat → Value) → World → Prop) : (Nat → Value) → World → Prop := denL Try.prog [(cd (Try.f19.body.getD .skip) [1, 1, 0, 1, 0, 0, 0, 0]), (cd (Try.f19.body.getD .skip) [1, 1, 0, 1, 0, 0, 0, 1])] (s19_p5_den K M1) (fun i => (bif Nat.beq i 0 then (s19_p1_den K) else (fun _ _ => False))) (s19_R K)
theorem s19_p6_ok (K : Value → World → Prop) (B1 : List Value → World → Prop) (s : Nat → Value) (w : World) (h : s19_p6 K B1 (s 0) (s 2) (s 3) (s 4) w) : Tr (s19_p6_den K (fun s w => B1 [s 0, s 2, s 3, s 4] w) s w) :=
  tr_simple (P := Try.prog) (codes := [(cd (Try.f19.body.getD .skip) [1, 1, 0, 1, 0, 0, 0, 0]), (cd (Try.f19.body.getD .skip) [1, 1, 0, 1, 0, 0, 0, 1])]) (N := (fun s w => s19_p5 K B1 (s 0) (s 2) (s 3) (s 4) w)) (N' := (s19_p5_den K (fun s w => B1 [s 0, s 2, s 3, s 4] w))) (X := (fun i => (bif Nat.beq i 0 then (fun s w => s19_p1 K (s 2) (s 3) w) else (fun _ _ => False)))) (X' := (fun i => (bif Nat.beq i 0 then (s19_p1_den K) else (fun _ _ => False)))) (R := s19_R K) (s := s) (w := w) (p := s19_p6 K B1 (s 0) (s 2) (s 3) (s 4) w) (q := s19_p6_den K (fun s w => B1 [s 0, s 2, s 3, s 4] w) s w) (fun s w h => s19_p5_ok K B1 s w @h) (fun i => (tr_bif (fun s w h => s19_p1_ok K s w @h) tr_id)) (by kernel_rfl) (by kernel_rfl) @h
def s19_p7_F (K : Value → World → Prop) (B1 : List Value → World → Prop) (l : List Value) (w : World) : Prop :=
  match l with
  | [t0, t2, t3, t4] => s19_p6 K B1 t0 t2 t3 t4 w
  | _ => False
theorem s19_p7_Fe {K : Value → World → Prop} {B1 : List Value → World → Prop} {t0 t2 t3 t4 : Value} {w : World} : s19_p7_F K B1 [t0, t2, t3, t4] w = s19_p6 K B1 t0 t2 t3 t4 w := by kernel_rfl
def s19_p7 (K : Value → World → Prop) (t0 t2 t3 t4 : Value) (w : World) : Prop :=
  LoopL (s19_p7_F K) [t0, t2, t3, t4] w
def s19_p7_den (K : Value → World → Prop) : (Nat → Value) → World → Prop := fun s w => LoopP (fun M1 s w => s19_p6_den K M1 s w) s w
theorem s19_p7_ok (K : Value → World → Prop) (s : Nat → Value) (w : World) (h : s19_p7 K (s 0) (s 2) (s 3) (s 4) w) : Tr (s19_p7_den K s w) :=
  tr_loop (G := fun N' s w => s19_p6_den K N' s w) (F := s19_p7_F K) (sel := fun s => [s 0, s 2, s 3, s 4]) (s := s) (w := w) (p := s19_p7 K (s 0) (s 2) (s 3) (s 4) w) (q := s19_p7_den K s w) (fun B s w h => s19_p6_ok K B s w @h) (by kernel_rfl) (by kernel_rfl) @h
def s19_p8 (K : Value → World → Prop) (t0 t2 t3 : Value) (w : World) : Prop :=
  s19_p7 K t0 t2 t3 (.int .i64 0) w
def s19_p8_den (K : Value → World → Prop) : (Nat → Value) → World → Prop := denL Try.prog [(cd (Try.f19.body.getD .skip) [1, 1, 0, 0])] (s19_p7_den K) (fun i => (fun _ _ => False)) (s19_R K)
theorem s19_p8_ok (K : Value → World → Prop) (s : Nat → Value) (w : World) (h : s19_p8 K (s 0) (s 2) (s 3) w) : Tr (s19_p8_den K s w) :=
  tr_simple (P := Try.prog) (codes := [(cd (Try.f19.body.getD .skip) [1, 1, 0, 0])]) (N := (fun s w => s19_p7 K (s 0) (s 2) (s 3) (s 4) w)) (N' := (s19_p7_den K)) (X := (fun i => (fun _ _ => False))) (X' := (fun i => (fun _ _ => False))) (R := s19_R K) (s := s) (w := w) (p := s19_p8 K (s 0) (s 2) (s 3) w) (q := s19_p8_den K s w) (fun s w h => s19_p7_ok K s w @h) (fun i => tr_id) (by kernel_rfl) (by kernel_rfl) @h
def s19_p9_d (K : Value → World → Prop) (t0 t2 : Value) (w0 w : World) : Prop :=
  nck t0 (fun t6 _ =>
  fd 24 t6 (fun t7 _ =>
  ld1 t7 (fun t8 _ =>
  nck t0 (fun t10 _ =>
  fd 25 t10 (fun t11 _ =>
  ld1 t11 (fun t12 _ =>
  nck t0 (fun t14 _ =>
  fd 26 t14 (fun t15 _ =>
  ldn 3 t15 (fun t16 _ =>
  nck t0 (fun t18 _ =>
  fd 29 t18 (fun t19 _ =>
  ldn 5 t19 (fun t20 _ =>
  bdq [(.bool false), (.int .i64 0), (.slice none 0 0), (.int .i64 0), (.int .i64 0), (.slice none 0 0), (.int .i64 0), (.int .i64 0), (.int .i64 0), (.int .i64 0), (.int .i64 0), (.slice none 0 0), (.slice none 0 0)] [(some (0, 1), t8), (some (1, 1), t12), (some (2, 3), t16), (some (6, 5), t20)] (fun t21 _ =>
  nw 45 #[(.bool false), (.int .i64 0), (.slice none 0 0), (.int .i64 0), (.int .i64 0), (.slice none 0 0), (.int .i64 0), (.int .i64 0), (.int .i64 0), (.int .i64 0), (.int .i64 0), (.slice none 0 0), (.slice none 0 0)] (fun t3 w =>
  Below w0.heap.size w0 w ∧
  stn 13 t3 t21 (fun w =>
  s19_p8 K t0 t2 t3 w) w) w) w0) w0) w0) w0) w0) w0) w0) w0) w0) w0) w0) w0) w0
def s19_p9 (K : Value → World → Prop) (t0 t2 : Value) (w : World) : Prop := s19_p9_d K t0 t2 (drw w) (drw w)
def s19_p9_den (K : Value → World → Prop) : (Nat → Value) → World → Prop := denL Try.prog [(cd (Try.f19.body.getD .skip) [1, 0])] (s19_p8_den K) (fun i => (fun _ _ => False)) (s19_R K)
theorem s19_p9_ok (K : Value → World → Prop) (s : Nat → Value) (w : World) (h : s19_p9 K (s 0) (s 2) w) : Tr (s19_p9_den K s w) :=
  tr_draw (P := Try.prog) (ops := (ro (cd (Try.f19.body.getD .skip) [1, 0]))) (ms := [0, 1, 3, 7, 0, 16, 48, 112, 0, 256, 768, 1792, 0, 4096, 12288, 28672, 65535, 0, 262143]) (cs := [0, 1, 2, 3, 4, 5, 6, 7, 8, 9, 10, 11, 12, 13, 14, 15, 16]) (N := (fun s w => s19_p8 K (s 0) (s 2) (s 3) w)) (N' := (s19_p8_den K)) (s := s) (w := w) (p := s19_p9 K (s 0) (s 2) w) (q := s19_p9_den K s w) (by kernel_rfl) (by kernel_rfl) (fun s w h => s19_p8_ok K s w @h) (by kernel_rfl) (by kernel_rfl) @h
def s19_p10 (K : Value → World → Prop) (t0 : Value) (w : World) : Prop :=
  nw 45 #[(.bool false), (.int .i64 0), (.slice none 0 0), (.int .i64 0), (.int .i64 0), (.slice none 0 0), (.int .i64 0), (.int .i64 0), (.int .i64 0), (.int .i64 0), (.int .i64 0), (.slice none 0 0), (.slice none 0 0)] (fun t2 w =>
  s19_p9 K t0 t2 w) w
def s19_p10_den (K : Value → World → Prop) : (Nat → Value) → World → Prop := denL Try.prog [(cd (Try.f19.body.getD .skip) [0])] (s19_p9_den K) (fun i => (fun _ _ => False)) (s19_R K)
theorem s19_p10_ok (K : Value → World → Prop) (s : Nat → Value) (w : World) (h : s19_p10 K (s 0) w) : Tr (s19_p10_den K s w) :=
  tr_simple (P := Try.prog) (codes := [(cd (Try.f19.body.getD .skip) [0])]) (N := (fun s w => s19_p9 K (s 0) (s 2) w)) (N' := (s19_p9_den K)) (X := (fun i => (fun _ _ => False))) (X' := (fun i => (fun _ _ => False))) (R := s19_R K) (s := s) (w := w) (p := s19_p10 K (s 0) w) (q := s19_p10_den K s w) (fun s w h => s19_p9_ok K s w @h) (fun i => tr_id) (by kernel_rfl) (by kernel_rfl) @h
/-- the call, from the text -/
theorem c19 (t0 : Value) {K : Value → World → Prop} {w : World} (h : s19_p10 K t0 w) : cl Try.prog 19 #[t0] K w :=
  calls_of_tr (c := (Try.f19.body.getD .skip)) (fn := Try.f19) (q := s19_p10_den K (st0 #[t0]) w) Try.func19 (by kernel_rfl) (by kernel_rfl) (Nat.le_of_ble_eq_true (by kernel_rfl)) (by kernel_rfl) (by kernel_rfl) (s19_p10_ok K (st0 #[t0]) w @h)

/-! ### function 20 : (*e2e.disk.Disk).Offline -/
def s20_R (K : Value → World → Prop) (s : Nat → Value) (w : World) : Prop := retv Try.prog s Try.f20.results.toList (fun vs => K (pack vs) w) w
def s20_p1 (K : Value → World → Prop) (t0 : Value) (w : World) : Prop :=
  nck t0 (fun t4 w =>
  fd 7 t4 (fun t5 w =>
  ld1 t5 (fun t6 w =>
  K t6 w) w) w) w
def s20_p1_den (K : Value → World → Prop) : (Nat → Value) → World → Prop := denL Try.prog [(cd (Try.f20.body.getD .skip) [0]), (cd (Try.f20.body.getD .skip) [1, 0]), (cd (Try.f20.body.getD .skip) [1, 1])] (fun _ _ => False) (fun i => (fun _ _ => False)) (s20_R K)
theorem s20_p1_ok (K : Value → World → Prop) (s : Nat → Value) (w : World) (h : s20_p1 K (s 0) w) : Tr (s20_p1_den K s w) :=
  tr_simple (P := Try.prog) (codes := [(cd (Try.f20.body.getD .skip) [0]), (cd (Try.f20.body.getD .skip) [1, 0]), (cd (Try.f20.body.getD .skip) [1, 1])]) (N := (fun _ _ => False)) (N' := (fun _ _ => False)) (X := (fun i => (fun _ _ => False))) (X' := (fun i => (fun _ _ => False))) (R := s20_R K) (s := s) (w := w) (p := s20_p1 K (s 0) w) (q := s20_p1_den K s w) tr_id (fun i => tr_id) (by kernel_rfl) (by kernel_rfl) @h
/-- the call, from the text -/
theorem c20 (t0 : Value) {K : Value → World → Prop} {w : World} (h : s20_p1 K t0 w) : cl Try.prog 20 #[t0] K w :=
  calls_of_tr (c := (Try.f20.body.getD .skip)) (fn := Try.f20) (q := s20_p1_den K (st0 #[t0]) w) Try.func20 (by kernel_rfl) (by kernel_rfl) (Nat.le_of_ble_eq_true (by kernel_rfl)) (by kernel_rfl) (by kernel_rfl) (s20_p1_ok K (st0 #[t0]) w @h)

/-! ### function 21 : e2e.disklaw.copyBytes -/
def s21_R (K : Value → World → Prop) (s : Nat → Value) (w : World) : Prop := retv Try.prog s Try.f21.results.toList (fun vs => K (pack vs) w) w
def s21_p1 (K : Value → World → Prop) (t0 : Value) (w : World) : Prop :=
  bsq 5 [(.int .u8 0)] 0 [] (fun t3 w =>
  apq 5 [(.int .u8 0)] 1 t3 t0 (fun t5 w =>
  K t5 w) w) w
def s21_p1_den (K : Value → World → Prop) : (Nat → Value) → World → Prop := denL Try.prog [(cd (Try.f21.body.getD .skip) [0]), (cd (Try.f21.body.getD .skip) [1, 0]), (cd (Try.f21.body.getD .skip) [1, 1])] (fun _ _ => False) (fun i => (fun _ _ => False)) (s21_R K)
theorem s21_p1_ok (K : Value → World → Prop) (s : Nat → Value) (w : World) (h : s21_p1 K (s 0) w) : Tr (s21_p1_den K s w) :=
  tr_simple (P := Try.prog) (codes := [(cd (Try.f21.body.getD .skip) [0]), (cd (Try.f21.body.getD .skip) [1, 0]), (cd (Try.f21.body.getD .skip) [1, 1])]) (N := (fun _ _ => False)) (N' := (fun _ _ => False)) (X := (fun i => (fun _ _ => False))) (X' := (fun i => (fun _ _ => False))) (R := s21_R K) (s := s) (w := w) (p := s21_p1 K (s 0) w) (q := s21_p1_den K s w) tr_id (fun i => tr_id) (by kernel_rfl) (by kernel_rfl) @h
/-- the call, from the text -/
theorem c21 (t0 : Value) {K : Value → World → Prop} {w : World} (h : s21_p1 K t0 w) : cl Try.prog 21 #[t0] K w :=
  calls_of_tr (c := (Try.f21.body.getD .skip)) (fn := Try.f21) (q := s21_p1_den K (st0 #[t0]) w) Try.func21 (by kernel_rfl) (by kernel_rfl) (Nat.le_of_ble_eq_true (by kernel_rfl)) (by kernel_rfl) (by kernel_rfl) (s21_p1_ok K (st0 #[t0]) w @h)

/-! ### function 22 : e2e.disklaw.readAll -/
def s22_R (K : Value → World → Prop) (s : Nat → Value) (w : World) : Prop := retv Try.prog s Try.f22.results.toList (fun vs => K (pack vs) w) w
def s22_p1 (K : Value → World → Prop) (t3 : Value) (w : World) : Prop :=
  K t3 w
def s22_p1_den (K : Value → World → Prop) : (Nat → Value) → World → Prop := denL Try.prog [(cd (Try.f22.body.getD .skip) [1, 1, 1, 0]), (cd (Try.f22.body.getD .skip) [1, 1, 1, 1])] (fun _ _ => False) (fun i => (fun _ _ => False)) (s22_R K)
theorem s22_p1_ok (K : Value → World → Prop) (s : Nat → Value) (w : World) (h : s22_p1 K (s 3) w) : Tr (s22_p1_den K s w) :=
  tr_simple (P := Try.prog) (codes := [(cd (Try.f22.body.getD .skip) [1, 1, 1, 0]), (cd (Try.f22.body.getD .skip) [1, 1, 1, 1])]) (N := (fun _ _ => False)) (N' := (fun _ _ => False)) (X := (fun i => (fun _ _ => False))) (X' := (fun i => (fun _ _ => False))) (R := s22_R K) (s := s) (w := w) (p := s22_p1 K (s 3) w) (q := s22_p1_den K s w) tr_id (fun i => tr_id) (by kernel_rfl) (by kernel_rfl) @h
def s22_p2 (K : Value → World → Prop) (B1 : List Value → World → Prop) (t0 t3 t7 t8 : Value) (w : World) : Prop :=
  boI .lss t8 t7 (fun t9 w =>
  ifb t9
  (mks 5 [(.int .u8 0)] 1 (.int .i64 16) (.int .i64 16) (fun t13 w =>
  ixs 1 t3 t8 (fun t14 w =>
  st1 t14 t13 (fun w =>
  ixs 1 t3 t8 (fun t19 w =>
  ld1 t19 (fun t20 w =>
  cl Try.prog 37 #[t0, t8, t20] (fun t21 w =>
  boF Try.prog true .neq t21 .nilIface (fun t22 w =>
  ifb t22
  (K (.slice none 0 0) w)
  (boI .add t8 (.int .i64 1) (fun t23 w =>
  B1 [t0, t3, t7, t23] w) w)) w) w) w) w) w) w) w)
  (s22_p1 K t3 w)) w
def s22_p2_den (K : Value → World → Prop) (M1 : (Nat → Value) → World → Prop) : (Nat → Value) → World → Prop := denL Try.prog [(cd (Try.f22.body.getD .skip) [1, 1, 0, 1, 0, 0, 0]), (cd (Try.f22.body.getD .skip) [1, 1, 0, 1, 0, 0, 1, 0]), (cd (Try.f22.body.getD .skip) [1, 1, 0, 1, 0, 0, 1, 1, 0]), (cd (Try.f22.body.getD .skip) [1, 1, 0, 1, 0, 0, 1, 1, 1])] M1 (fun i => (bif Nat.beq i 0 then (s22_p1_den K) else (fun _ _ => False))) (s22_R K)
theorem s22_p2_ok (K : Value → World → Prop) (B1 : List Value → World → Prop) (s : Nat → Value) (w : World) (h : s22_p2 K B1 (s 0) (s 3) (s 7) (s 8) w) : Tr (s22_p2_den K (fun s w => B1 [s 0, s 3, s 7, s 8] w) s w) :=
  tr_simple (P := Try.prog) (codes := [(cd (Try.f22.body.getD .skip) [1, 1, 0, 1, 0, 0, 0]), (cd (Try.f22.body.getD .skip) [1, 1, 0, 1, 0, 0, 1, 0]), (cd (Try.f22.body.getD .skip) [1, 1, 0, 1, 0, 0, 1, 1, 0]), (cd (Try.f22.body.getD .skip) [1, 1, 0, 1, 0, 0, 1, 1, 1])]) (N := (fun s w => B1 [s 0, s 3, s 7, s 8] w)) (N' := (fun s w => B1 [s 0, s 3, s 7, s 8] w)) (X := (fun i => (bif Nat.beq i 0 then (fun s w => s22_p1 K (s 3) w) else (fun _ _ => False)))) (X' := (fun i => (bif Nat.beq i 0 then (s22_p1_den K) else (fun _ _ => False)))) (R := s22_R K) (s := s) (w := w) (p := s22_p2 K B1 (s 0) (s 3) (s 7) (s 8) w) (q := s22_p2_den K (fun s w => B1 [s 0, s 3, s 7, s 8] w) s w) tr_id (fun i => (tr_bif (fun s w h => s22_p1_ok K s w @h) tr_id)) (by kernel_rfl) (by kernel_rfl) @h
def s22_p3_F (K : Value → World → Prop) (B1 : List Value → World → Prop) (l : List Value) (w : World) : Prop :=
  match l with
  | [t0, t3, t7, t8] => s22_p2 K B1 t0 t3 t7 t8 w
  | _ => False
theorem s22_p3_Fe {K : Value → World → Prop} {B1 : List Value → World → Prop} {t0 t3 t7 t8 : Value} {w : World} : s22_p3_F K B1 [t0, t3, t7, t8] w = s22_p2 K B1 t0 t3 t7 t8 w := by kernel_rfl
def s22_p3 (K : Value → World → Prop) (t0 t3 t7 t8 : Value) (w : World) : Prop :=
  LoopL (s22_p3_F K) [t0, t3, t7, t8] w
def s22_p3_den (K : Value → World → Prop) : (Nat → Value) → World → Prop := fun s w => LoopP (fun M1 s w => s22_p2_den K M1 s w) s w
theorem s22_p3_ok (K : Value → World → Prop) (s : Nat → Value) (w : World) (h : s22_p3 K (s 0) (s 3) (s 7) (s 8) w) : Tr (s22_p3_den K s w) :=
  tr_loop (G := fun N' s w => s22_p2_den K N' s w) (F := s22_p3_F K) (sel := fun s => [s 0, s 3, s 7, s 8]) (s := s) (w := w) (p := s22_p3 K (s 0) (s 3) (s 7) (s 8) w) (q := s22_p3_den K s w) (fun B s w h => s22_p2_ok K B s w @h) (by kernel_rfl) (by kernel_rfl) @h
def s22_p4 (K : Value → World → Prop) (t0 : Value) (w : World) : Prop :=
  mks 29 [(.slice none 0 0)] 24 (.int .i64 12) (.int .i64 12) (fun t5 w =>
  lnS t5 (fun t7 w =>
  s22_p3 K t0 t5 t7 (.int .i64 0) w) w) w
def s22_p4_den (K : Value → World → Prop) : (Nat → Value) → World → Prop := denL Try.prog [(cd (Try.f22.body.getD .skip) [0]), (cd (Try.f22.body.getD .skip) [1, 0]), (cd (Try.f22.body.getD .skip) [1, 1, 0, 0])] (s22_p3_den K) (fun i => (fun _ _ => False)) (s22_R K)
theorem s22_p4_ok (K : Value → World → Prop) (s : Nat → Value) (w : World) (h : s22_p4 K (s 0) w) : Tr (s22_p4_den K s w) :=
  tr_simple (P := Try.prog) (codes := [(cd (Try.f22.body.getD .skip) [0]), (cd (Try.f22.body.getD .skip) [1, 0]), (cd (Try.f22.body.getD .skip) [1, 1, 0, 0])]) (N := (fun s w => s22_p3 K (s 0) (s 3) (s 7) (s 8) w)) (N' := (s22_p3_den K)) (X := (fun i => (fun _ _ => False))) (X' := (fun i => (fun _ _ => False))) (R := s22_R K) (s := s) (w := w) (p := s22_p4 K (s 0) w) (q := s22_p4_den K s w) (fun s w h => s22_p3_ok K s w @h) (fun i => tr_id) (by kernel_rfl) (by kernel_rfl) @h
/-- the call, from the text -/
theorem c22 (t0 : Value) {K : Value → World → Prop} {w : World} (h : s22_p4 K t0 w) : cl Try.prog 22 #[t0] K w :=
  calls_of_tr (c := (Try.f22.body.getD .skip)) (fn := Try.f22) (q := s22_p4_den K (st0 #[t0]) w) Try.func22 (by kernel_rfl) (by kernel_rfl) (Nat.le_of_ble_eq_true (by kernel_rfl)) (by kernel_rfl) (by kernel_rfl) (s22_p4_ok K (st0 #[t0]) w @h)

/-! ### function 23 : (*e2e.disk.Disk).Armed -/
def s23_R (K : Value → World → Prop) (s : Nat → Value) (w : World) : Prop := retv Try.prog s Try.f23.results.toList (fun vs => K (pack vs) w) w
def s23_p1 (K : Value → World → Prop) (t2 t3 : Value) (w : World) : Prop :=
  ldn 3 t3 (fun r1 _ =>
  K (.tuple #[t2, r1]) w) w
def s23_p1_den (K : Value → World → Prop) : (Nat → Value) → World → Prop := denL Try.prog [(cd (Try.f23.body.getD .skip) [1, 1])] (fun _ _ => False) (fun i => (fun _ _ => False)) (s23_R K)
theorem s23_p1_ok (K : Value → World → Prop) (s : Nat → Value) (w : World) (h : s23_p1 K (s 2) (s 3) w) : Tr (s23_p1_den K s w) :=
  tr_simple (P := Try.prog) (codes := [(cd (Try.f23.body.getD .skip) [1, 1])]) (N := (fun _ _ => False)) (N' := (fun _ _ => False)) (X := (fun i => (fun _ _ => False))) (X' := (fun i => (fun _ _ => False))) (R := s23_R K) (s := s) (w := w) (p := s23_p1 K (s 2) (s 3) w) (q := s23_p1_den K s w) tr_id (fun i => tr_id) (by kernel_rfl) (by kernel_rfl) @h
def s23_p2_d (K : Value → World → Prop) (t0 t3 : Value) (w0 w : World) : Prop :=
  nck t0 (fun t5 _ =>
  fd 8 t5 (fun t6 _ =>
  fd 0 t6 (fun t7 _ =>
  ld1 t7 (fun t8 _ =>
  nck t0 (fun t10 _ =>
  fd 8 t10 (fun t11 _ =>
  fd 1 t11 (fun t12 _ =>
  ldn 3 t12 (fun t13 _ =>
  cl Try.prog 51 #[t13] (fun t14 w =>
  Below w0.heap.size w0 w ∧
  stn 3 t3 t14 (fun w =>
  s23_p1 K t8 t3 w) w) w) w0) w0) w0) w0) w0) w0) w0) w0
def s23_p2 (K : Value → World → Prop) (t0 t3 : Value) (w : World) : Prop := s23_p2_d K t0 t3 (drw w) (drw w)
def s23_p2_den (K : Value → World → Prop) : (Nat → Value) → World → Prop := denL Try.prog [(cd (Try.f23.body.getD .skip) [1, 0])] (s23_p1_den K) (fun i => (fun _ _ => False)) (s23_R K)
theorem s23_p2_ok (K : Value → World → Prop) (s : Nat → Value) (w : World) (h : s23_p2 K (s 0) (s 3) w) : Tr (s23_p2_den K s w) :=
  tr_draw (P := Try.prog) (ops := (ro (cd (Try.f23.body.getD .skip) [1, 0]))) (ms := [0, 1, 3, 7, 15, 0, 32, 96, 224, 480, 992, 2047, 4095]) (cs := [0, 1, 2, 3, 4, 5, 6, 7, 8, 9, 11]) (N := (fun s w => s23_p1 K (s 2) (s 3) w)) (N' := (s23_p1_den K)) (s := s) (w := w) (p := s23_p2 K (s 0) (s 3) w) (q := s23_p2_den K s w) (by kernel_rfl) (by kernel_rfl) (fun s w h => s23_p1_ok K s w @h) (by kernel_rfl) (by kernel_rfl) @h
def s23_p3 (K : Value → World → Prop) (t0 : Value) (w : World) : Prop :=
  nw 32 #[(.slice none 0 0), (.int .i64 0), (.int .i64 0)] (fun t3 w =>
  s23_p2 K t0 t3 w) w
def s23_p3_den (K : Value → World → Prop) : (Nat → Value) → World → Prop := denL Try.prog [(cd (Try.f23.body.getD .skip) [0])] (s23_p2_den K) (fun i => (fun _ _ => False)) (s23_R K)
theorem s23_p3_ok (K : Value → World → Prop) (s : Nat → Value) (w : World) (h : s23_p3 K (s 0) w) : Tr (s23_p3_den K s w) :=
  tr_simple (P := Try.prog) (codes := [(cd (Try.f23.body.getD .skip) [0])]) (N := (fun s w => s23_p2 K (s 0) (s 3) w)) (N' := (s23_p2_den K)) (X := (fun i => (fun _ _ => False))) (X' := (fun i => (fun _ _ => False))) (R := s23_R K) (s := s) (w := w) (p := s23_p3 K (s 0) w) (q := s23_p3_den K s w) (fun s w h => s23_p2_ok K s w @h) (fun i => tr_id) (by kernel_rfl) (by kernel_rfl) @h
/-- the call, from the text -/
theorem c23 (t0 : Value) {K : Value → World → Prop} {w : World} (h : s23_p3 K t0 w) : cl Try.prog 23 #[t0] K w :=
  calls_of_tr (c := (Try.f23.body.getD .skip)) (fn := Try.f23) (q := s23_p3_den K (st0 #[t0]) w) Try.func23 (by kernel_rfl) (by kernel_rfl) (Nat.le_of_ble_eq_true (by kernel_rfl)) (by kernel_rfl) (by kernel_rfl) (s23_p3_ok K (st0 #[t0]) w @h)

/-! ### function 24 : e2e.diskm.Has -/
def s24_R (K : Value → World → Prop) (s : Nat → Value) (w : World) : Prop := retv Try.prog s Try.f24.results.toList (fun vs => K (pack vs) w) w
def s24_p1 (K : Value → World → Prop) (w : World) : Prop :=
  K (.bool false) w
def s24_p1_den (K : Value → World → Prop) : (Nat → Value) → World → Prop := denL Try.prog [(cd (Try.f24.body.getD .skip) [1, 1, 0]), (cd (Try.f24.body.getD .skip) [1, 1, 1])] (fun _ _ => False) (fun i => (fun _ _ => False)) (s24_R K)
theorem s24_p1_ok (K : Value → World → Prop) (s : Nat → Value) (w : World) (h : s24_p1 K w) : Tr (s24_p1_den K s w) :=
  tr_simple (P := Try.prog) (codes := [(cd (Try.f24.body.getD .skip) [1, 1, 0]), (cd (Try.f24.body.getD .skip) [1, 1, 1])]) (N := (fun _ _ => False)) (N' := (fun _ _ => False)) (X := (fun i => (fun _ _ => False))) (X' := (fun i => (fun _ _ => False))) (R := s24_R K) (s := s) (w := w) (p := s24_p1 K w) (q := s24_p1_den K s w) tr_id (fun i => tr_id) (by kernel_rfl) (by kernel_rfl) @h
def s24_p2 (K : Value → World → Prop) (B1 : List Value → World → Prop) (t1 t7 t8 t9 : Value) (w : World) : Prop :=
  boI .lss t9 t8 (fun t10 w =>
  ifb t10
  (ixs 1 t7 t9 (fun t11 w =>
  ld1 t11 (fun t12 w =>
  boI .eql t12 t1 (fun t15 w =>
  ifb t15
  (K (.bool true) w)
  (boI .add t9 (.int .i64 1) (fun t16 w =>
  B1 [t1, t7, t8, t16] w) w)) w) w) w)
  (s24_p1 K w)) w
def s24_p2_den (K : Value → World → Prop) (M1 : (Nat → Value) → World → Prop) : (Nat → Value) → World → Prop := denL Try.prog [(cd (Try.f24.body.getD .skip) [1, 0, 1, 0, 0, 0]), (cd (Try.f24.body.getD .skip) [1, 0, 1, 0, 0, 1, 0]), (cd (Try.f24.body.getD .skip) [1, 0, 1, 0, 0, 1, 1, 0]), (cd (Try.f24.body.getD .skip) [1, 0, 1, 0, 0, 1, 1, 1])] M1 (fun i => (bif Nat.beq i 0 then (s24_p1_den K) else (fun _ _ => False))) (s24_R K)
theorem s24_p2_ok (K : Value → World → Prop) (B1 : List Value → World → Prop) (s : Nat → Value) (w : World) (h : s24_p2 K B1 (s 1) (s 7) (s 8) (s 9) w) : Tr (s24_p2_den K (fun s w => B1 [s 1, s 7, s 8, s 9] w) s w) :=
  tr_simple (P := Try.prog) (codes := [(cd (Try.f24.body.getD .skip) [1, 0, 1, 0, 0, 0]), (cd (Try.f24.body.getD .skip) [1, 0, 1, 0, 0, 1, 0]), (cd (Try.f24.body.getD .skip) [1, 0, 1, 0, 0, 1, 1, 0]), (cd (Try.f24.body.getD .skip) [1, 0, 1, 0, 0, 1, 1, 1])]) (N := (fun s w => B1 [s 1, s 7, s 8, s 9] w)) (N' := (fun s w => B1 [s 1, s 7, s 8, s 9] w)) (X := (fun i => (bif Nat.beq i 0 then (fun s w => s24_p1 K w) else (fun _ _ => False)))) (X' := (fun i => (bif Nat.beq i 0 then (s24_p1_den K) else (fun _ _ => False)))) (R := s24_R K) (s := s) (w := w) (p := s24_p2 K B1 (s 1) (s 7) (s 8) (s 9) w) (q := s24_p2_den K (fun s w => B1 [s 1, s 7, s 8, s 9] w) s w) tr_id (fun i => (tr_bif (fun s w h => s24_p1_ok K s w @h) tr_id)) (by kernel_rfl) (by kernel_rfl) @h
def s24_p3_F (K : Value → World → Prop) (B1 : List Value → World → Prop) (l : List Value) (w : World) : Prop :=
  match l with
  | [t1, t7, t8, t9] => s24_p2 K B1 t1 t7 t8 t9 w
  | _ => False
theorem s24_p3_Fe {K : Value → World → Prop} {B1 : List Value → World → Prop} {t1 t7 t8 t9 : Value} {w : World} : s24_p3_F K B1 [t1, t7, t8, t9] w = s24_p2 K B1 t1 t7 t8 t9 w := by kernel_rfl
def s24_p3 (K : Value → World → Prop) (t1 t7 t8 t9 : Value) (w : World) : Prop :=
  LoopL (s24_p3_F K) [t1, t7, t8, t9] w
def s24_p3_den (K : Value → World → Prop) : (Nat → Value) → World → Prop := fun s w => LoopP (fun M1 s w => s24_p2_den K M1 s w) s w
theorem s24_p3_ok (K : Value → World → Prop) (s : Nat → Value) (w : World) (h : s24_p3 K (s 1) (s 7) (s 8) (s 9) w) : Tr (s24_p3_den K s w) :=
  tr_loop (G := fun N' s w => s24_p2_den K N' s w) (F := s24_p3_F K) (sel := fun s => [s 1, s 7, s 8, s 9]) (s := s) (w := w) (p := s24_p3 K (s 1) (s 7) (s 8) (s 9) w) (q := s24_p3_den K s w) (fun B s w h => s24_p2_ok K B s w @h) (by kernel_rfl) (by kernel_rfl) @h
def s24_p4 (K : Value → World → Prop) (t0 t1 : Value) (w : World) : Prop :=
  lnS t0 (fun t8 w =>
  s24_p3 K t1 t0 t8 (.int .i64 0) w) w
def s24_p4_den (K : Value → World → Prop) : (Nat → Value) → World → Prop := denL Try.prog [(cd (Try.f24.body.getD .skip) [0]), (cd (Try.f24.body.getD .skip) [1, 0, 0])] (s24_p3_den K) (fun i => (fun _ _ => False)) (s24_R K)
theorem s24_p4_ok (K : Value → World → Prop) (s : Nat → Value) (w : World) (h : s24_p4 K (s 0) (s 1) w) : Tr (s24_p4_den K s w) :=
  tr_simple (P := Try.prog) (codes := [(cd (Try.f24.body.getD .skip) [0]), (cd (Try.f24.body.getD .skip) [1, 0, 0])]) (N := (fun s w => s24_p3 K (s 1) (s 7) (s 8) (s 9) w)) (N' := (s24_p3_den K)) (X := (fun i => (fun _ _ => False))) (X' := (fun i => (fun _ _ => False))) (R := s24_R K) (s := s) (w := w) (p := s24_p4 K (s 0) (s 1) w) (q := s24_p4_den K s w) (fun s w h => s24_p3_ok K s w @h) (fun i => tr_id) (by kernel_rfl) (by kernel_rfl) @h
/-- the call, from the text -/
theorem c24 (t0 t1 : Value) {K : Value → World → Prop} {w : World} (h : s24_p4 K t0 t1 w) : cl Try.prog 24 #[t0, t1] K w :=
  calls_of_tr (c := (Try.f24.body.getD .skip)) (fn := Try.f24) (q := s24_p4_den K (st0 #[t0, t1]) w) Try.func24 (by kernel_rfl) (by kernel_rfl) (Nat.le_of_ble_eq_true (by kernel_rfl)) (by kernel_rfl) (by kernel_rfl) (s24_p4_ok K (st0 #[t0, t1]) w @h)

/-! ### function 25 : (*e2e.disk.Disk).Clone -/
def s25_R (K : Value → World → Prop) (s : Nat → Value) (w : World) : Prop := retv Try.prog s Try.f25.results.toList (fun vs => K (pack vs) w) w
def s25_p1 (K : Value → World → Prop) (t3 : Value) (w : World) : Prop :=
  K t3 w
def s25_p1_den (K : Value → World → Prop) : (Nat → Value) → World → Prop := denL Try.prog [(cd (Try.f25.body.getD .skip) [1, 1, 1, 0]), (cd (Try.f25.body.getD .skip) [1, 1, 1, 1])] (fun _ _ => False) (fun i => (fun _ _ => False)) (s25_R K)
theorem s25_p1_ok (K : Value → World → Prop) (s : Nat → Value) (w : World) (h : s25_p1 K (s 3) w) : Tr (s25_p1_den K s w) :=
  tr_simple (P := Try.prog) (codes := [(cd (Try.f25.body.getD .skip) [1, 1, 1, 0]), (cd (Try.f25.body.getD .skip) [1, 1, 1, 1])]) (N := (fun _ _ => False)) (N' := (fun _ _ => False)) (X := (fun i => (fun _ _ => False))) (X' := (fun i => (fun _ _ => False))) (R := s25_R K) (s := s) (w := w) (p := s25_p1 K (s 3) w) (q := s25_p1_den K s w) tr_id (fun i => tr_id) (by kernel_rfl) (by kernel_rfl) @h
def s25_p2_d (K : Value → World → Prop) (t0 t3 : Value) (w0 w : World) : Prop :=
  nck t3 (fun t41 _ =>
  fd 2 t41 (fun t42 _ =>
  ld1 t42 (fun t43 _ =>
  nck t0 (fun t45 _ =>
  fd 2 t45 (fun t46 _ =>
  ld1 t46 (fun t47 _ =>
  cpq 1 t43 t47 (fun t48 w =>
  s25_p1 K t3 w) w) w0) w0) w0) w0) w0) w0
def s25_p2 (K : Value → World → Prop) (t0 t3 : Value) (w : World) : Prop := s25_p2_d K t0 t3 (drw w) (drw w)
def s25_p2_den (K : Value → World → Prop) : (Nat → Value) → World → Prop := denL Try.prog [(cd (Try.f25.body.getD .skip) [1, 1, 0])] (s25_p1_den K) (fun i => (fun _ _ => False)) (s25_R K)
theorem s25_p2_ok (K : Value → World → Prop) (s : Nat → Value) (w : World) (h : s25_p2 K (s 0) (s 3) w) : Tr (s25_p2_den K s w) :=
  tr_draw (P := Try.prog) (ops := (ro (cd (Try.f25.body.getD .skip) [1, 1, 0]))) (ms := [0, 1, 3, 7, 0, 16, 48, 112, 255]) (cs := [0, 1, 2, 3, 4, 5, 6, 7]) (N := (fun s w => s25_p1 K (s 3) w)) (N' := (s25_p1_den K)) (s := s) (w := w) (p := s25_p2 K (s 0) (s 3) w) (q := s25_p2_den K s w) (by kernel_rfl) (by kernel_rfl) (fun s w h => s25_p1_ok K s w @h) (by kernel_rfl) (by kernel_rfl) @h
def s25_p3_d (K : Value → World → Prop) (t0 : Value) (w0 w : World) : Prop :=
  nck t0 (fun t5 _ =>
  fd 0 t5 (fun t6 _ =>
  ldn 2 t6 (fun t7 _ =>
  nck t0 (fun t9 _ =>
  fd 2 t9 (fun t10 _ =>
  ld1 t10 (fun t11 _ =>
  lnS t11 (fun t12 _ =>
  nck t0 (fun t15 _ =>
  fd 3 t15 (fun t16 _ =>
  nck t0 (fun t19 _ =>
  fd 7 t19 (fun t20 _ =>
  ld1 t20 (fun t21 _ =>
  nck t0 (fun t23 _ =>
  fd 8 t23 (fun t24 _ =>
  fd 0 t24 (fun t25 _ =>
  ld1 t25 (fun t26 _ =>
  nck t0 (fun t28 _ =>
  fd 8 t28 (fun t29 _ =>
  fd 1 t29 (fun t30 _ =>
  ldn 3 t30 (fun t31 _ =>
  nck t0 (fun t35 _ =>
  fd 12 t35 (fun t36 _ =>
  ldn 5 t36 (fun t37 _ =>
  (mks 5 [(.int .u8 0)] 1 t12 t12 (fun t13 w =>
  Below w0.heap.size w0 w ∧
  cl Try.prog 52 #[t16] (fun t17 w =>
  Below w0.heap.size w0 w ∧
  cl Try.prog 51 #[t31] (fun t32 w =>
  Below w0.heap.size w0 w ∧
  bdq [(.int .i64 0), (.slice none 0 0), (.int .i64 0), (.int .i64 0)] [(some (0, 1), t26), (some (1, 3), t32)] (fun t33 w =>
  Below w0.heap.size w0 w ∧
  bdq [(.int .i64 0), (.int .i64 0), (.slice none 0 0), (.int .i64 0), (.slice none 0 0), (.slice none 0 0), (.slice none 0 0), (.bool false), (.int .i64 0), (.slice none 0 0), (.int .i64 0), (.int .i64 0), (.int .i64 0), (.int .i64 0), (.int .i64 0), (.int .i64 0), (.int .i64 0)] [(some (0, 2), t7), (some (2, 1), t13), (some (3, 4), t17), (some (7, 1), t21), (some (8, 4), t33), (some (12, 5), t37)] (fun t38 w =>
  nw 91 (t38).cells (fun t39 w =>
  s25_p2 K t0 t39 w) w) w) w) w) w) w) ∧
  (cl Try.prog 52 #[t16] (fun t17_2 w =>
  Below w0.heap.size w0 w ∧
  (mks 5 [(.int .u8 0)] 1 t12 t12 (fun t13_2 w =>
  Below w0.heap.size w0 w ∧
  cl Try.prog 51 #[t31] (fun t32_2 w =>
  Below w0.heap.size w0 w ∧
  bdq [(.int .i64 0), (.slice none 0 0), (.int .i64 0), (.int .i64 0)] [(some (0, 1), t26), (some (1, 3), t32_2)] (fun t33_2 w =>
  Below w0.heap.size w0 w ∧
  bdq [(.int .i64 0), (.int .i64 0), (.slice none 0 0), (.int .i64 0), (.slice none 0 0), (.slice none 0 0), (.slice none 0 0), (.bool false), (.int .i64 0), (.slice none 0 0), (.int .i64 0), (.int .i64 0), (.int .i64 0), (.int .i64 0), (.int .i64 0), (.int .i64 0), (.int .i64 0)] [(some (0, 2), t7), (some (2, 1), t13_2), (some (3, 4), t17_2), (some (7, 1), t21), (some (8, 4), t33_2), (some (12, 5), t37)] (fun t38_2 w =>
  nw 91 (t38_2).cells (fun t39_2 w =>
  s25_p2 K t0 t39_2 w) w) w) w) w) w) ∧
  (cl Try.prog 51 #[t31] (fun t32_3 w =>
  Below w0.heap.size w0 w ∧
  (mks 5 [(.int .u8 0)] 1 t12 t12 (fun t13_3 w =>
  Below w0.heap.size w0 w ∧
  bdq [(.int .i64 0), (.slice none 0 0), (.int .i64 0), (.int .i64 0)] [(some (0, 1), t26), (some (1, 3), t32_3)] (fun t33_3 w =>
  Below w0.heap.size w0 w ∧
  bdq [(.int .i64 0), (.int .i64 0), (.slice none 0 0), (.int .i64 0), (.slice none 0 0), (.slice none 0 0), (.slice none 0 0), (.bool false), (.int .i64 0), (.slice none 0 0), (.int .i64 0), (.int .i64 0), (.int .i64 0), (.int .i64 0), (.int .i64 0), (.int .i64 0), (.int .i64 0)] [(some (0, 2), t7), (some (2, 1), t13_3), (some (3, 4), t17_2), (some (7, 1), t21), (some (8, 4), t33_3), (some (12, 5), t37)] (fun t38_3 w =>
  nw 91 (t38_3).cells (fun t39_3 w =>
  s25_p2 K t0 t39_3 w) w) w) w) w) ∧
  (bdq [(.int .i64 0), (.slice none 0 0), (.int .i64 0), (.int .i64 0)] [(some (0, 1), t26), (some (1, 3), t32_3)] (fun t33_4 w =>
  Below w0.heap.size w0 w ∧
  mks 5 [(.int .u8 0)] 1 t12 t12 (fun t13_4 w =>
  Below w0.heap.size w0 w ∧
  bdq [(.int .i64 0), (.int .i64 0), (.slice none 0 0), (.int .i64 0), (.slice none 0 0), (.slice none 0 0), (.slice none 0 0), (.bool false), (.int .i64 0), (.slice none 0 0), (.int .i64 0), (.int .i64 0), (.int .i64 0), (.int .i64 0), (.int .i64 0), (.int .i64 0), (.int .i64 0)] [(some (0, 2), t7), (some (2, 1), t13_4), (some (3, 4), t17_2), (some (7, 1), t21), (some (8, 4), t33_4), (some (12, 5), t37)] (fun t38_4 w =>
  nw 91 (t38_4).cells (fun t39_4 w =>
  s25_p2 K t0 t39_4 w) w) w) w) w)) w)) w)) w0) w0) w0) w0) w0) w0) w0) w0) w0) w0) w0) w0) w0) w0) w0) w0) w0) w0) w0) w0) w0) w0) w0
def s25_p3 (K : Value → World → Prop) (t0 : Value) (w : World) : Prop := s25_p3_d K t0 (drw w) (drw w)
def s25_p3_den (K : Value → World → Prop) : (Nat → Value) → World → Prop := denL Try.prog [(cd (Try.f25.body.getD .skip) [1, 0])] (s25_p2_den K) (fun i => (fun _ _ => False)) (s25_R K)
theorem s25_p3_ok (K : Value → World → Prop) (s : Nat → Value) (w : World) (h : s25_p3 K (s 0) w) : Tr (s25_p3_den K s w) :=
  tr_draw (P := Try.prog) (ops := (ro (cd (Try.f25.body.getD .skip) [1, 0]))) (ms := [0, 1, 3, 7, 0, 16, 48, 112, 240, 496, 0, 1024, 3072, 7168, 0, 16384, 49152, 114688, 0, 262144, 786432, 1835008, 3932160, 0, 8388608, 25165824, 58720256, 125829120, 260062208, 536624128, 0, 1073741824, 3221225472, 7516192768, 17179869183, 34359738367, 68719476735]) (cs := [0, 1, 2, 3, 4, 5, 6, 7, 8, 10, 11, 12, 14, 15, 16, 17, 18, 19, 20, 21, 22, 23, 24, 25, 26, 27, 30, 31, 32, 33]) (N := (fun s w => s25_p2 K (s 0) (s 3) w)) (N' := (s25_p2_den K)) (s := s) (w := w) (p := s25_p3 K (s 0) w) (q := s25_p3_den K s w) (by kernel_rfl) (by kernel_rfl) (fun s w h => s25_p2_ok K s w @h) (by kernel_rfl) (by kernel_rfl) @h
def s25_p4 (K : Value → World → Prop) (t0 : Value) (w : World) : Prop :=
  s25_p3 K t0 w
def s25_p4_den (K : Value → World → Prop) : (Nat → Value) → World → Prop := denL Try.prog [(cd (Try.f25.body.getD .skip) [0])] (s25_p3_den K) (fun i => (fun _ _ => False)) (s25_R K)
theorem s25_p4_ok (K : Value → World → Prop) (s : Nat → Value) (w : World) (h : s25_p4 K (s 0) w) : Tr (s25_p4_den K s w) :=
  tr_simple (P := Try.prog) (codes := [(cd (Try.f25.body.getD .skip) [0])]) (N := (fun s w => s25_p3 K (s 0) w)) (N' := (s25_p3_den K)) (X := (fun i => (fun _ _ => False))) (X' := (fun i => (fun _ _ => False))) (R := s25_R K) (s := s) (w := w) (p := s25_p4 K (s 0) w) (q := s25_p4_den K s w) (fun s w h => s25_p3_ok K s w @h) (fun i => tr_id) (by kernel_rfl) (by kernel_rfl) @h
/-- the call, from the text -/
theorem c25 (t0 : Value) {K : Value → World → Prop} {w : World} (h : s25_p4 K t0 w) : cl Try.prog 25 #[t0] K w :=
  calls_of_tr (c := (Try.f25.body.getD .skip)) (fn := Try.f25) (q := s25_p4_den K (st0 #[t0]) w) Try.func25 (by kernel_rfl) (by kernel_rfl) (Nat.le_of_ble_eq_true (by kernel_rfl)) (by kernel_rfl) (by kernel_rfl) (s25_p4_ok K (st0 #[t0]) w @h)

/-! ### function 26 : (*e2e.disk.Disk).Restart -/
def s26_R (K : Value → World → Prop) (s : Nat → Value) (w : World) : Prop := retv Try.prog s Try.f26.results.toList (fun vs => K (pack vs) w) w
def s26_p1 (K : Value → World → Prop) (t0 : Value) (w : World) : Prop :=
  nck t0 (fun t4 w =>
  fd 7 t4 (fun t5 w =>
  ld1 t5 (fun t6 w =>
  un .not t6 (fun t7 w =>
  ifb t7
  (bdq [(.int .i64 0), (.string ⟨#[]⟩), (.int .i64 0), (.int .i64 0)] [(some (0, 1), (.int .i64 5)), (some (1, 1), (.string ⟨#[82, 101, 115, 116, 97, 114, 116]⟩))] (fun t8 w =>
  nw 96 (t8).cells (fun t9 w =>
  K (.iface 94 t9) w) w) w)
  (nck t0 (fun t12 w =>
  fd 7 t12 (fun t13 w =>
  st1 t13 (.bool false) (fun w =>
  nck t0 (fun t15 w =>
  fd 12 t15 (fun t16 w =>
  fd 4 t16 (fun t17 w =>
  ld1 t17 (fun t18 w =>
  boI .add t18 (.int .i64 1) (fun t19 w =>
  nck t0 (fun t20 w =>
  fd 12 t20 (fun t21 w =>
  fd 4 t21 (fun t22 w =>
  st1 t22 t19 (fun w =>
  K .nilIface w) w) w) w) w) w) w) w) w) w) w) w) w)) w) w) w) w
def s26_p1_den (K : Value → World → Prop) : (Nat → Value) → World → Prop := denL Try.prog [(cd (Try.f26.body.getD .skip) [0]), (cd (Try.f26.body.getD .skip) [1, 0, 0]), (cd (Try.f26.body.getD .skip) [1, 0, 1]), (cd (Try.f26.body.getD .skip) [1, 1, 0]), (cd (Try.f26.body.getD .skip) [1, 1, 1, 0]), (cd (Try.f26.body.getD .skip) [1, 1, 1, 1, 0]), (cd (Try.f26.body.getD .skip) [1, 1, 1, 1, 1])] (fun _ _ => False) (fun i => (fun _ _ => False)) (s26_R K)
theorem s26_p1_ok (K : Value → World → Prop) (s : Nat → Value) (w : World) (h : s26_p1 K (s 0) w) : Tr (s26_p1_den K s w) :=
  tr_simple (P := Try.prog) (codes := [(cd (Try.f26.body.getD .skip) [0]), (cd (Try.f26.body.getD .skip) [1, 0, 0]), (cd (Try.f26.body.getD .skip) [1, 0, 1]), (cd (Try.f26.body.getD .skip) [1, 1, 0]), (cd (Try.f26.body.getD .skip) [1, 1, 1, 0]), (cd (Try.f26.body.getD .skip) [1, 1, 1, 1, 0]), (cd (Try.f26.body.getD .skip) [1, 1, 1, 1, 1])]) (N := (fun _ _ => False)) (N' := (fun _ _ => False)) (X := (fun i => (fun _ _ => False))) (X' := (fun i => (fun _ _ => False))) (R := s26_R K) (s := s) (w := w) (p := s26_p1 K (s 0) w) (q := s26_p1_den K s w) tr_id (fun i => tr_id) (by kernel_rfl) (by kernel_rfl) @h
/-- the call, from the text -/
theorem c26 (t0 : Value) {K : Value → World → Prop} {w : World} (h : s26_p1 K t0 w) : cl Try.prog 26 #[t0] K w :=
  calls_of_tr (c := (Try.f26.body.getD .skip)) (fn := Try.f26) (q := s26_p1_den K (st0 #[t0]) w) Try.func26 (by kernel_rfl) (by kernel_rfl) (Nat.le_of_ble_eq_true (by kernel_rfl)) (by kernel_rfl) (by kernel_rfl) (s26_p1_ok K (st0 #[t0]) w @h)

/-! ### function 27 : e2e.disklaw.sameSectors -/
def s27_R (K : Value → World → Prop) (s : Nat → Value) (w : World) : Prop := retv Try.prog s Try.f27.results.toList (fun vs => K (pack vs) w) w
def s27_p1 (K : Value → World → Prop) (w : World) : Prop :=
  K (.bool true) w
def s27_p1_den (K : Value → World → Prop) : (Nat → Value) → World → Prop := denL Try.prog [(cd (Try.f27.body.getD .skip) [1, 1, 1, 0]), (cd (Try.f27.body.getD .skip) [1, 1, 1, 1])] (fun _ _ => False) (fun i => (fun _ _ => False)) (s27_R K)
theorem s27_p1_ok (K : Value → World → Prop) (s : Nat → Value) (w : World) (h : s27_p1 K w) : Tr (s27_p1_den K s w) :=
  tr_simple (P := Try.prog) (codes := [(cd (Try.f27.body.getD .skip) [1, 1, 1, 0]), (cd (Try.f27.body.getD .skip) [1, 1, 1, 1])]) (N := (fun _ _ => False)) (N' := (fun _ _ => False)) (X := (fun i => (fun _ _ => False))) (X' := (fun i => (fun _ _ => False))) (R := s27_R K) (s := s) (w := w) (p := s27_p1 K w) (q := s27_p1_den K s w) tr_id (fun i => tr_id) (by kernel_rfl) (by kernel_rfl) @h
def s27_p2 (K : Value → World → Prop) (B1 : List Value → World → Prop) (t0 t1 t15 t16 : Value) (w : World) : Prop :=
  boI .add t16 (.int .i64 1) (fun t29 w =>
  B1 [t0, t1, t15, t29] w) w
def s27_p2_den (K : Value → World → Prop) (M1 : (Nat → Value) → World → Prop) : (Nat → Value) → World → Prop := denL Try.prog [(cd (Try.f27.body.getD .skip) [1, 1, 0, 1, 0, 0, 1, 1, 1])] M1 (fun i => (bif Nat.beq i 0 then (s27_p1_den K) else (fun _ _ => False))) (s27_R K)
theorem s27_p2_ok (K : Value → World → Prop) (B1 : List Value → World → Prop) (s : Nat → Value) (w : World) (h : s27_p2 K B1 (s 0) (s 1) (s 15) (s 16) w) : Tr (s27_p2_den K (fun s w => B1 [s 0, s 1, s 15, s 16] w) s w) :=
  tr_simple (P := Try.prog) (codes := [(cd (Try.f27.body.getD .skip) [1, 1, 0, 1, 0, 0, 1, 1, 1])]) (N := (fun s w => B1 [s 0, s 1, s 15, s 16] w)) (N' := (fun s w => B1 [s 0, s 1, s 15, s 16] w)) (X := (fun i => (bif Nat.beq i 0 then (fun s w => s27_p1 K w) else (fun _ _ => False)))) (X' := (fun i => (bif Nat.beq i 0 then (s27_p1_den K) else (fun _ _ => False)))) (R := s27_R K) (s := s) (w := w) (p := s27_p2 K B1 (s 0) (s 1) (s 15) (s 16) w) (q := s27_p2_den K (fun s w => B1 [s 0, s 1, s 15, s 16] w) s w) tr_id (fun i => (tr_bif (fun s w h => s27_p1_ok K s w @h) tr_id)) (by kernel_rfl) (by kernel_rfl) @h
def s27_p3 (K : Value → World → Prop) (B1 : List Value → World → Prop) (t0 t1 t15 t16 t28 : Value) (w : World) : Prop :=
  ifb t28
  (K (.bool false) w)
  (s27_p2 K B1 t0 t1 t15 t16 w)
def s27_p3_den (K : Value → World → Prop) (M1 : (Nat → Value) → World → Prop) : (Nat → Value) → World → Prop := denL Try.prog [(cd (Try.f27.body.getD .skip) [1, 1, 0, 1, 0, 0, 1, 1, 0, 0, 1, 1])] (s27_p2_den K M1) (fun i => (bif Nat.beq i 1 then (s27_p2_den K M1) else (bif Nat.beq i 0 then (s27_p1_den K) else (fun _ _ => False)))) (s27_R K)
theorem s27_p3_ok (K : Value → World → Prop) (B1 : List Value → World → Prop) (s : Nat → Value) (w : World) (h : s27_p3 K B1 (s 0) (s 1) (s 15) (s 16) (s 28) w) : Tr (s27_p3_den K (fun s w => B1 [s 0, s 1, s 15, s 16] w) s w) :=
  tr_simple (P := Try.prog) (codes := [(cd (Try.f27.body.getD .skip) [1, 1, 0, 1, 0, 0, 1, 1, 0, 0, 1, 1])]) (N := (fun s w => s27_p2 K B1 (s 0) (s 1) (s 15) (s 16) w)) (N' := (s27_p2_den K (fun s w => B1 [s 0, s 1, s 15, s 16] w))) (X := (fun i => (bif Nat.beq i 1 then (fun s w => s27_p2 K B1 (s 0) (s 1) (s 15) (s 16) w) else (bif Nat.beq i 0 then (fun s w => s27_p1 K w) else (fun _ _ => False))))) (X' := (fun i => (bif Nat.beq i 1 then (s27_p2_den K (fun s w => B1 [s 0, s 1, s 15, s 16] w)) else (bif Nat.beq i 0 then (s27_p1_den K) else (fun _ _ => False))))) (R := s27_R K) (s := s) (w := w) (p := s27_p3 K B1 (s 0) (s 1) (s 15) (s 16) (s 28) w) (q := s27_p3_den K (fun s w => B1 [s 0, s 1, s 15, s 16] w) s w) (fun s w h => s27_p2_ok K B1 s w @h) (fun i => (tr_bif (fun s w h => s27_p2_ok K B1 s w @h) (tr_bif (fun s w h => s27_p1_ok K s w @h) tr_id))) (by kernel_rfl) (by kernel_rfl) @h
def s27_p4_d (K : Value → World → Prop) (B1 : List Value → World → Prop) (t0 t1 t5 t15 t16 : Value) (w0 w : World) : Prop :=
  ixs 1 t0 t5 (fun t21 _ =>
  ld1 t21 (fun t22 _ =>
  ixs 1 t1 t5 (fun t25 _ =>
  ld1 t25 (fun t26 _ =>
  cl Try.prog 16 #[t22, t26] (fun t27 w =>
  un .not t27 (fun t28 w =>
  s27_p3 K B1 t0 t1 t15 t16 t28 w) w) w) w0) w0) w0) w0
def s27_p4 (K : Value → World → Prop) (B1 : List Value → World → Prop) (t0 t1 t5 t15 t16 : Value) (w : World) : Prop := s27_p4_d K B1 t0 t1 t5 t15 t16 (drw w) (drw w)
def s27_p4_den (K : Value → World → Prop) (M1 : (Nat → Value) → World → Prop) : (Nat → Value) → World → Prop := denL Try.prog [(cd (Try.f27.body.getD .skip) [1, 1, 0, 1, 0, 0, 1, 1, 0, 0, 1, 0])] (s27_p3_den K M1) (fun i => (bif Nat.beq i 1 then (s27_p2_den K M1) else (bif Nat.beq i 0 then (s27_p1_den K) else (fun _ _ => False)))) (s27_R K)
theorem s27_p4_ok (K : Value → World → Prop) (B1 : List Value → World → Prop) (s : Nat → Value) (w : World) (h : s27_p4 K B1 (s 0) (s 1) (s 5) (s 15) (s 16) w) : Tr (s27_p4_den K (fun s w => B1 [s 0, s 1, s 15, s 16] w) s w) :=
  tr_draw (P := Try.prog) (ops := (ro (cd (Try.f27.body.getD .skip) [1, 1, 0, 1, 0, 0, 1, 1, 0, 0, 1, 0]))) (ms := [0, 0, 3, 7, 0, 0, 48, 112, 255, 511]) (cs := [0, 1, 2, 3, 4, 5, 6, 7]) (N := (fun s w => s27_p3 K B1 (s 0) (s 1) (s 15) (s 16) (s 28) w)) (N' := (s27_p3_den K (fun s w => B1 [s 0, s 1, s 15, s 16] w))) (s := s) (w := w) (p := s27_p4 K B1 (s 0) (s 1) (s 5) (s 15) (s 16) w) (q := s27_p4_den K (fun s w => B1 [s 0, s 1, s 15, s 16] w) s w) (by kernel_rfl) (by kernel_rfl) (fun s w h => s27_p3_ok K B1 s w @h) (by kernel_rfl) (by kernel_rfl) @h
def s27_p5 (K : Value → World → Prop) (B1 : List Value → World → Prop) (t0 t1 t15 t16 : Value) (w : World) : Prop :=
  s27_p4 K B1 t0 t1 t16 t15 t16 w
def s27_p5_den (K : Value → World → Prop) (M1 : (Nat → Value) → World → Prop) : (Nat → Value) → World → Prop := denL Try.prog [(cd (Try.f27.body.getD .skip) [1, 1, 0, 1, 0, 0, 1, 1, 0, 0, 0])] (s27_p4_den K M1) (fun i => (bif Nat.beq i 1 then (s27_p2_den K M1) else (bif Nat.beq i 0 then (s27_p1_den K) else (fun _ _ => False)))) (s27_R K)
theorem s27_p5_ok (K : Value → World → Prop) (B1 : List Value → World → Prop) (s : Nat → Value) (w : World) (h : s27_p5 K B1 (s 0) (s 1) (s 15) (s 16) w) : Tr (s27_p5_den K (fun s w => B1 [s 0, s 1, s 15, s 16] w) s w) :=
  tr_simple (P := Try.prog) (codes := [(cd (Try.f27.body.getD .skip) [1, 1, 0, 1, 0, 0, 1, 1, 0, 0, 0])]) (N := (fun s w => s27_p4 K B1 (s 0) (s 1) (s 5) (s 15) (s 16) w)) (N' := (s27_p4_den K (fun s w => B1 [s 0, s 1, s 15, s 16] w))) (X := (fun i => (bif Nat.beq i 1 then (fun s w => s27_p2 K B1 (s 0) (s 1) (s 15) (s 16) w) else (bif Nat.beq i 0 then (fun s w => s27_p1 K w) else (fun _ _ => False))))) (X' := (fun i => (bif Nat.beq i 1 then (s27_p2_den K (fun s w => B1 [s 0, s 1, s 15, s 16] w)) else (bif Nat.beq i 0 then (s27_p1_den K) else (fun _ _ => False))))) (R := s27_R K) (s := s) (w := w) (p := s27_p5 K B1 (s 0) (s 1) (s 15) (s 16) w) (q := s27_p5_den K (fun s w => B1 [s 0, s 1, s 15, s 16] w) s w) (fun s w h => s27_p4_ok K B1 s w @h) (fun i => (tr_bif (fun s w h => s27_p2_ok K B1 s w @h) (tr_bif (fun s w h => s27_p1_ok K s w @h) tr_id))) (by kernel_rfl) (by kernel_rfl) @h
def s27_p6 (K : Value → World → Prop) (B1 : List Value → World → Prop) (t0 t1 t15 t16 : Value) (w : World) : Prop :=
  boI .lss t16 t15 (fun t17 w =>
  ifb t17
  (s27_p5 K B1 t0 t1 t15 t16 w)
  (s27_p1 K w)) w
def s27_p6_den (K : Value → World → Prop) (M1 : (Nat → Value) → World → Prop) : (Nat → Value) → World → Prop := denL Try.prog [(cd (Try.f27.body.getD .skip) [1, 1, 0, 1, 0, 0, 0]), (cd (Try.f27.body.getD .skip) [1, 1, 0, 1, 0, 0, 1, 0])] (s27_p5_den K M1) (fun i => (bif Nat.beq i 0 then (s27_p1_den K) else (fun _ _ => False))) (s27_R K)
theorem s27_p6_ok (K : Value → World → Prop) (B1 : List Value → World → Prop) (s : Nat → Value) (w : World) (h : s27_p6 K B1 (s 0) (s 1) (s 15) (s 16) w) : Tr (s27_p6_den K (fun s w => B1 [s 0, s 1, s 15, s 16] w) s w) :=
  tr_simple (P := Try.prog) (codes := [(cd (Try.f27.body.getD .skip) [1, 1, 0, 1, 0, 0, 0]), (cd (Try.f27.body.getD .skip) [1, 1, 0, 1, 0, 0, 1, 0])]) (N := (fun s w => s27_p5 K B1 (s 0) (s 1) (s 15) (s 16) w)) (N' := (s27_p5_den K (fun s w => B1 [s 0, s 1, s 15, s 16] w))) (X := (fun i => (bif Nat.beq i 0 then (fun s w => s27_p1 K w) else (fun _ _ => False)))) (X' := (fun i => (bif Nat.beq i 0 then (s27_p1_den K) else (fun _ _ => False)))) (R := s27_R K) (s := s) (w := w) (p := s27_p6 K B1 (s 0) (s 1) (s 15) (s 16) w) (q := s27_p6_den K (fun s w => B1 [s 0, s 1, s 15, s 16] w) s w) (fun s w h => s27_p5_ok K B1 s w @h) (fun i => (tr_bif (fun s w h => s27_p1_ok K s w @h) tr_id)) (by kernel_rfl) (by kernel_rfl) @h
def s27_p7_F (K : Value → World → Prop) (B1 : List Value → World → Prop) (l : List Value) (w : World) : Prop :=
  match l with
  | [t0, t1, t15, t16] => s27_p6 K B1 t0 t1 t15 t16 w
  | _ => False
theorem s27_p7_Fe {K : Value → World → Prop} {B1 : List Value → World → Prop} {t0 t1 t15 t16 : Value} {w : World} : s27_p7_F K B1 [t0, t1, t15, t16] w = s27_p6 K B1 t0 t1 t15 t16 w := by kernel_rfl
def s27_p7 (K : Value → World → Prop) (t0 t1 t15 t16 : Value) (w : World) : Prop :=
  LoopL (s27_p7_F K) [t0, t1, t15, t16] w
def s27_p7_den (K : Value → World → Prop) : (Nat → Value) → World → Prop := fun s w => LoopP (fun M1 s w => s27_p6_den K M1 s w) s w
theorem s27_p7_ok (K : Value → World → Prop) (s : Nat → Value) (w : World) (h : s27_p7 K (s 0) (s 1) (s 15) (s 16) w) : Tr (s27_p7_den K s w) :=
  tr_loop (G := fun N' s w => s27_p6_den K N' s w) (F := s27_p7_F K) (sel := fun s => [s 0, s 1, s 15, s 16]) (s := s) (w := w) (p := s27_p7 K (s 0) (s 1) (s 15) (s 16) w) (q := s27_p7_den K s w) (fun B s w h => s27_p6_ok K B s w @h) (by kernel_rfl) (by kernel_rfl) @h
def s27_p8 (K : Value → World → Prop) (t0 t1 : Value) (w : World) : Prop :=
  lnS t0 (fun t7 w =>
  boI .neq t7 (.int .i64 12) (fun t8 w =>
  gd t8 false (fun K w => K t1 w) (fun t10 w =>
  gd t8 false (lnS t10) (fun t11 w =>
  gd t8 false (boI .neq t11 (.int .i64 12)) (fun t12 w =>
  pk t8 (.bool true) t12 (fun t13 w =>
  ifb t13
  (K (.bool false) w)
  (lnS t0 (fun t15 w =>
  s27_p7 K t0 t1 t15 (.int .i64 0) w) w)) w) w) w) w) w) w
def s27_p8_den (K : Value → World → Prop) : (Nat → Value) → World → Prop := denL Try.prog [(cd (Try.f27.body.getD .skip) [0]), (cd (Try.f27.body.getD .skip) [1, 0, 0]), (cd (Try.f27.body.getD .skip) [1, 0, 1]), (cd (Try.f27.body.getD .skip) [1, 1, 0, 0])] (s27_p7_den K) (fun i => (fun _ _ => False)) (s27_R K)
theorem s27_p8_ok (K : Value → World → Prop) (s : Nat → Value) (w : World) (h : s27_p8 K (s 0) (s 1) w) : Tr (s27_p8_den K s w) :=
  tr_simple (P := Try.prog) (codes := [(cd (Try.f27.body.getD .skip) [0]), (cd (Try.f27.body.getD .skip) [1, 0, 0]), (cd (Try.f27.body.getD .skip) [1, 0, 1]), (cd (Try.f27.body.getD .skip) [1, 1, 0, 0])]) (N := (fun s w => s27_p7 K (s 0) (s 1) (s 15) (s 16) w)) (N' := (s27_p7_den K)) (X := (fun i => (fun _ _ => False))) (X' := (fun i => (fun _ _ => False))) (R := s27_R K) (s := s) (w := w) (p := s27_p8 K (s 0) (s 1) w) (q := s27_p8_den K s w) (fun s w h => s27_p7_ok K s w @h) (fun i => tr_id) (by kernel_rfl) (by kernel_rfl) @h
/-- the call, from the text -/
theorem c27 (t0 t1 : Value) {K : Value → World → Prop} {w : World} (h : s27_p8 K t0 t1 w) : cl Try.prog 27 #[t0, t1] K w :=
  calls_of_tr (c := (Try.f27.body.getD .skip)) (fn := Try.f27) (q := s27_p8_den K (st0 #[t0, t1]) w) Try.func27 (by kernel_rfl) (by kernel_rfl) (Nat.le_of_ble_eq_true (by kernel_rfl)) (by kernel_rfl) (by kernel_rfl) (s27_p8_ok K (st0 #[t0, t1]) w @h)

/-! ### function 28 : e2e.disklaw.length -/
def s28_R (K : Value → World → Prop) (s : Nat → Value) (w : World) : Prop := retv Try.prog s Try.f28.results.toList (fun vs => K (pack vs) w) w
def s28_p1 (K : Value → World → Prop) (t0 : Value) (w : World) : Prop :=
  boI .lss t0 (.int .i64 0) (fun t4 w =>
  ifb t4
  (K (.int .i64 0) w)
  (boI .gtr t0 (.int .i64 48) (fun t6 w =>
  ifb t6
  (K (.int .i64 48) w)
  (K t0 w)) w)) w
def s28_p1_den (K : Value → World → Prop) : (Nat → Value) → World → Prop := denL Try.prog [(cd (Try.f28.body.getD .skip) [0]), (cd (Try.f28.body.getD .skip) [1, 0, 0]), (cd (Try.f28.body.getD .skip) [1, 0, 1]), (cd (Try.f28.body.getD .skip) [1, 1, 0, 0]), (cd (Try.f28.body.getD .skip) [1, 1, 0, 1]), (cd (Try.f28.body.getD .skip) [1, 1, 1, 0]), (cd (Try.f28.body.getD .skip) [1, 1, 1, 1])] (fun _ _ => False) (fun i => (fun _ _ => False)) (s28_R K)
theorem s28_p1_ok (K : Value → World → Prop) (s : Nat → Value) (w : World) (h : s28_p1 K (s 0) w) : Tr (s28_p1_den K s w) :=
  tr_simple (P := Try.prog) (codes := [(cd (Try.f28.body.getD .skip) [0]), (cd (Try.f28.body.getD .skip) [1, 0, 0]), (cd (Try.f28.body.getD .skip) [1, 0, 1]), (cd (Try.f28.body.getD .skip) [1, 1, 0, 0]), (cd (Try.f28.body.getD .skip) [1, 1, 0, 1]), (cd (Try.f28.body.getD .skip) [1, 1, 1, 0]), (cd (Try.f28.body.getD .skip) [1, 1, 1, 1])]) (N := (fun _ _ => False)) (N' := (fun _ _ => False)) (X := (fun i => (fun _ _ => False))) (X' := (fun i => (fun _ _ => False))) (R := s28_R K) (s := s) (w := w) (p := s28_p1 K (s 0) w) (q := s28_p1_den K s w) tr_id (fun i => tr_id) (by kernel_rfl) (by kernel_rfl) @h
/-- the call, from the text -/
theorem c28 (t0 : Value) {K : Value → World → Prop} {w : World} (h : s28_p1 K t0 w) : cl Try.prog 28 #[t0] K w :=
  calls_of_tr (c := (Try.f28.body.getD .skip)) (fn := Try.f28) (q := s28_p1_den K (st0 #[t0]) w) Try.func28 (by kernel_rfl) (by kernel_rfl) (Nat.le_of_ble_eq_true (by kernel_rfl)) (by kernel_rfl) (by kernel_rfl) (s28_p1_ok K (st0 #[t0]) w @h)

/-! ### function 29 : e2e.disklaw.untouched -/
def s29_R (K : Value → World → Prop) (s : Nat → Value) (w : World) : Prop := retv Try.prog s Try.f29.results.toList (fun vs => K (pack vs) w) w
def s29_p1 (K : Value → World → Prop) (w : World) : Prop :=
  K (.bool true) w
def s29_p1_den (K : Value → World → Prop) : (Nat → Value) → World → Prop := denL Try.prog [(cd (Try.f29.body.getD .skip) [1, 1, 0]), (cd (Try.f29.body.getD .skip) [1, 1, 1])] (fun _ _ => False) (fun i => (fun _ _ => False)) (s29_R K)
theorem s29_p1_ok (K : Value → World → Prop) (s : Nat → Value) (w : World) (h : s29_p1 K w) : Tr (s29_p1_den K s w) :=
  tr_simple (P := Try.prog) (codes := [(cd (Try.f29.body.getD .skip) [1, 1, 0]), (cd (Try.f29.body.getD .skip) [1, 1, 1])]) (N := (fun _ _ => False)) (N' := (fun _ _ => False)) (X := (fun i => (fun _ _ => False))) (X' := (fun i => (fun _ _ => False))) (R := s29_R K) (s := s) (w := w) (p := s29_p1 K w) (q := s29_p1_den K s w) tr_id (fun i => tr_id) (by kernel_rfl) (by kernel_rfl) @h
def s29_p2 (K : Value → World → Prop) (B1 : List Value → World → Prop) (t5 t6 t7 : Value) (w : World) : Prop :=
  boI .lss t7 t6 (fun t8 w =>
  ifb t8
  (ixs 1 t5 t7 (fun t9 w =>
  ld1 t9 (fun t10 w =>
  boI .neq t10 (.int .u8 238) (fun t12 w =>
  ifb t12
  (K (.bool false) w)
  (boI .add t7 (.int .i64 1) (fun t13 w =>
  B1 [t5, t6, t13] w) w)) w) w) w)
  (s29_p1 K w)) w
def s29_p2_den (K : Value → World → Prop) (M1 : (Nat → Value) → World → Prop) : (Nat → Value) → World → Prop := denL Try.prog [(cd (Try.f29.body.getD .skip) [1, 0, 1, 0, 0, 0]), (cd (Try.f29.body.getD .skip) [1, 0, 1, 0, 0, 1, 0]), (cd (Try.f29.body.getD .skip) [1, 0, 1, 0, 0, 1, 1, 0]), (cd (Try.f29.body.getD .skip) [1, 0, 1, 0, 0, 1, 1, 1])] M1 (fun i => (bif Nat.beq i 0 then (s29_p1_den K) else (fun _ _ => False))) (s29_R K)
theorem s29_p2_ok (K : Value → World → Prop) (B1 : List Value → World → Prop) (s : Nat → Value) (w : World) (h : s29_p2 K B1 (s 5) (s 6) (s 7) w) : Tr (s29_p2_den K (fun s w => B1 [s 5, s 6, s 7] w) s w) :=
  tr_simple (P := Try.prog) (codes := [(cd (Try.f29.body.getD .skip) [1, 0, 1, 0, 0, 0]), (cd (Try.f29.body.getD .skip) [1, 0, 1, 0, 0, 1, 0]), (cd (Try.f29.body.getD .skip) [1, 0, 1, 0, 0, 1, 1, 0]), (cd (Try.f29.body.getD .skip) [1, 0, 1, 0, 0, 1, 1, 1])]) (N := (fun s w => B1 [s 5, s 6, s 7] w)) (N' := (fun s w => B1 [s 5, s 6, s 7] w)) (X := (fun i => (bif Nat.beq i 0 then (fun s w => s29_p1 K w) else (fun _ _ => False)))) (X' := (fun i => (bif Nat.beq i 0 then (s29_p1_den K) else (fun _ _ => False)))) (R := s29_R K) (s := s) (w := w) (p := s29_p2 K B1 (s 5) (s 6) (s 7) w) (q := s29_p2_den K (fun s w => B1 [s 5, s 6, s 7] w) s w) tr_id (fun i => (tr_bif (fun s w h => s29_p1_ok K s w @h) tr_id)) (by kernel_rfl) (by kernel_rfl) @h
def s29_p3_F (K : Value → World → Prop) (B1 : List Value → World → Prop) (l : List Value) (w : World) : Prop :=
  match l with
  | [t5, t6, t7] => s29_p2 K B1 t5 t6 t7 w
  | _ => False
theorem s29_p3_Fe {K : Value → World → Prop} {B1 : List Value → World → Prop} {t5 t6 t7 : Value} {w : World} : s29_p3_F K B1 [t5, t6, t7] w = s29_p2 K B1 t5 t6 t7 w := by kernel_rfl
def s29_p3 (K : Value → World → Prop) (t5 t6 t7 : Value) (w : World) : Prop :=
  LoopL (s29_p3_F K) [t5, t6, t7] w
def s29_p3_den (K : Value → World → Prop) : (Nat → Value) → World → Prop := fun s w => LoopP (fun M1 s w => s29_p2_den K M1 s w) s w
theorem s29_p3_ok (K : Value → World → Prop) (s : Nat → Value) (w : World) (h : s29_p3 K (s 5) (s 6) (s 7) w) : Tr (s29_p3_den K s w) :=
  tr_loop (G := fun N' s w => s29_p2_den K N' s w) (F := s29_p3_F K) (sel := fun s => [s 5, s 6, s 7]) (s := s) (w := w) (p := s29_p3 K (s 5) (s 6) (s 7) w) (q := s29_p3_den K s w) (fun B s w h => s29_p2_ok K B s w @h) (by kernel_rfl) (by kernel_rfl) @h
def s29_p4 (K : Value → World → Prop) (t0 : Value) (w : World) : Prop :=
  lnS t0 (fun t6 w =>
  s29_p3 K t0 t6 (.int .i64 0) w) w
def s29_p4_den (K : Value → World → Prop) : (Nat → Value) → World → Prop := denL Try.prog [(cd (Try.f29.body.getD .skip) [0]), (cd (Try.f29.body.getD .skip) [1, 0, 0])] (s29_p3_den K) (fun i => (fun _ _ => False)) (s29_R K)
theorem s29_p4_ok (K : Value → World → Prop) (s : Nat → Value) (w : World) (h : s29_p4 K (s 0) w) : Tr (s29_p4_den K s w) :=
  tr_simple (P := Try.prog) (codes := [(cd (Try.f29.body.getD .skip) [0]), (cd (Try.f29.body.getD .skip) [1, 0, 0])]) (N := (fun s w => s29_p3 K (s 5) (s 6) (s 7) w)) (N' := (s29_p3_den K)) (X := (fun i => (fun _ _ => False))) (X' := (fun i => (fun _ _ => False))) (R := s29_R K) (s := s) (w := w) (p := s29_p4 K (s 0) w) (q := s29_p4_den K s w) (fun s w h => s29_p3_ok K s w @h) (fun i => tr_id) (by kernel_rfl) (by kernel_rfl) @h
/-- the call, from the text -/
theorem c29 (t0 : Value) {K : Value → World → Prop} {w : World} (h : s29_p4 K t0 w) : cl Try.prog 29 #[t0] K w :=
  calls_of_tr (c := (Try.f29.body.getD .skip)) (fn := Try.f29) (q := s29_p4_den K (st0 #[t0]) w) Try.func29 (by kernel_rfl) (by kernel_rfl) (Nat.le_of_ble_eq_true (by kernel_rfl)) (by kernel_rfl) (by kernel_rfl) (s29_p4_ok K (st0 #[t0]) w @h)

/-! ### function 30 : (*e2e.disk.Disk).Crash -/
def s30_R (K : Value → World → Prop) (s : Nat → Value) (w : World) : Prop := retv Try.prog s Try.f30.results.toList (fun vs => K (pack vs) w) w
def s30_p1 (K : Value → World → Prop) (t0 t1 : Value) (w : World) : Prop :=
  nw 32 (t1).cells (fun t3 w =>
  nck t0 (fun t6 w =>
  fd 7 t6 (fun t7 w =>
  ld1 t7 (fun t8 w =>
  ifb t8
  (bdq [(.int .i64 0), (.string ⟨#[]⟩), (.int .i64 0), (.int .i64 0)] [(some (0, 1), (.int .i64 4)), (some (1, 1), (.string ⟨#[67, 114, 97, 115, 104]⟩))] (fun t9 w =>
  nw 96 (t9).cells (fun t10 w =>
  K (.iface 94 t10) w) w) w)
  (ldn 3 t3 (fun t13 w =>
  cl Try.prog 53 #[t0, t13] (fun t14 w =>
  K .nilIface w) w) w)) w) w) w) w
def s30_p1_den (K : Value → World → Prop) : (Nat → Value) → World → Prop := denL Try.prog [(cd (Try.f30.body.getD .skip) [0]), (cd (Try.f30.body.getD .skip) [1, 0, 0]), (cd (Try.f30.body.getD .skip) [1, 0, 1]), (cd (Try.f30.body.getD .skip) [1, 1, 0]), (cd (Try.f30.body.getD .skip) [1, 1, 1, 0]), (cd (Try.f30.body.getD .skip) [1, 1, 1, 1])] (fun _ _ => False) (fun i => (fun _ _ => False)) (s30_R K)
theorem s30_p1_ok (K : Value → World → Prop) (s : Nat → Value) (w : World) (h : s30_p1 K (s 0) (s 1) w) : Tr (s30_p1_den K s w) :=
  tr_simple (P := Try.prog) (codes := [(cd (Try.f30.body.getD .skip) [0]), (cd (Try.f30.body.getD .skip) [1, 0, 0]), (cd (Try.f30.body.getD .skip) [1, 0, 1]), (cd (Try.f30.body.getD .skip) [1, 1, 0]), (cd (Try.f30.body.getD .skip) [1, 1, 1, 0]), (cd (Try.f30.body.getD .skip) [1, 1, 1, 1])]) (N := (fun _ _ => False)) (N' := (fun _ _ => False)) (X := (fun i => (fun _ _ => False))) (X' := (fun i => (fun _ _ => False))) (R := s30_R K) (s := s) (w := w) (p := s30_p1 K (s 0) (s 1) w) (q := s30_p1_den K s w) tr_id (fun i => tr_id) (by kernel_rfl) (by kernel_rfl) @h
/-- the call, from the text -/
theorem c30 (t0 t1 : Value) {K : Value → World → Prop} {w : World} (h : s30_p1 K t0 t1 w) : cl Try.prog 30 #[t0, t1] K w :=
  calls_of_tr (c := (Try.f30.body.getD .skip)) (fn := Try.f30) (q := s30_p1_den K (st0 #[t0, t1]) w) Try.func30 (by kernel_rfl) (by kernel_rfl) (Nat.le_of_ble_eq_true (by kernel_rfl)) (by kernel_rfl) (by kernel_rfl) (s30_p1_ok K (st0 #[t0, t1]) w @h)

/-! ### function 31 : e2e.disk.CodeOf -/
def s31_R (K : Value → World → Prop) (s : Nat → Value) (w : World) : Prop := retv Try.prog s Try.f31.results.toList (fun vs => K (pack vs) w) w
def s31_p1 (K : Value → World → Prop) (t0 : Value) (w : World) : Prop :=
  boF Try.prog true .eql t0 .nilIface (fun t6 w =>
  ifb t6
  (K (.int .i64 0) w)
  (taq 94 (.pointer none) true t0 (fun t9 w =>
  exq t9 0 (fun t10 w =>
  exq t9 1 (fun t11 w =>
  ifb t11
  (nck t10 (fun t14 w =>
  fd 0 t14 (fun t15 w =>
  ld1 t15 (fun t16 w =>
  K t16 w) w) w) w)
  (K (.int .i64 (-1)) w)) w) w) w)) w
def s31_p1_den (K : Value → World → Prop) : (Nat → Value) → World → Prop := denL Try.prog [(cd (Try.f31.body.getD .skip) [0]), (cd (Try.f31.body.getD .skip) [1, 0, 0]), (cd (Try.f31.body.getD .skip) [1, 0, 1]), (cd (Try.f31.body.getD .skip) [1, 1, 0, 0]), (cd (Try.f31.body.getD .skip) [1, 1, 0, 1, 0]), (cd (Try.f31.body.getD .skip) [1, 1, 0, 1, 1]), (cd (Try.f31.body.getD .skip) [1, 1, 1, 0]), (cd (Try.f31.body.getD .skip) [1, 1, 1, 1])] (fun _ _ => False) (fun i => (fun _ _ => False)) (s31_R K)
theorem s31_p1_ok (K : Value → World → Prop) (s : Nat → Value) (w : World) (h : s31_p1 K (s 0) w) : Tr (s31_p1_den K s w) :=
  tr_simple (P := Try.prog) (codes := [(cd (Try.f31.body.getD .skip) [0]), (cd (Try.f31.body.getD .skip) [1, 0, 0]), (cd (Try.f31.body.getD .skip) [1, 0, 1]), (cd (Try.f31.body.getD .skip) [1, 1, 0, 0]), (cd (Try.f31.body.getD .skip) [1, 1, 0, 1, 0]), (cd (Try.f31.body.getD .skip) [1, 1, 0, 1, 1]), (cd (Try.f31.body.getD .skip) [1, 1, 1, 0]), (cd (Try.f31.body.getD .skip) [1, 1, 1, 1])]) (N := (fun _ _ => False)) (N' := (fun _ _ => False)) (X := (fun i => (fun _ _ => False))) (X' := (fun i => (fun _ _ => False))) (R := s31_R K) (s := s) (w := w) (p := s31_p1 K (s 0) w) (q := s31_p1_den K s w) tr_id (fun i => tr_id) (by kernel_rfl) (by kernel_rfl) @h
/-- the call, from the text -/
theorem c31 (t0 : Value) {K : Value → World → Prop} {w : World} (h : s31_p1 K t0 w) : cl Try.prog 31 #[t0] K w :=
  calls_of_tr (c := (Try.f31.body.getD .skip)) (fn := Try.f31) (q := s31_p1_den K (st0 #[t0]) w) Try.func31 (by kernel_rfl) (by kernel_rfl) (Nat.le_of_ble_eq_true (by kernel_rfl)) (by kernel_rfl) (by kernel_rfl) (s31_p1_ok K (st0 #[t0]) w @h)

/-! ### function 32 : (*e2e.disk.Disk).Flush -/
def s32_R (K : Value → World → Prop) (s : Nat → Value) (w : World) : Prop := retv Try.prog s Try.f32.results.toList (fun vs => K (pack vs) w) w
def s32_p1 (K : Value → World → Prop) (t0 : Value) (w : World) : Prop :=
  nck t0 (fun t60 w =>
  fd 3 t60 (fun t61 w =>
  cl Try.prog 56 #[t61] (fun t62 w =>
  K .nilIface w) w) w) w
def s32_p1_den (K : Value → World → Prop) : (Nat → Value) → World → Prop := denL Try.prog [(cd (Try.f32.body.getD .skip) [1, 1, 1, 1, 1, 0]), (cd (Try.f32.body.getD .skip) [1, 1, 1, 1, 1, 1, 0]), (cd (Try.f32.body.getD .skip) [1, 1, 1, 1, 1, 1, 1])] (fun _ _ => False) (fun i => (fun _ _ => False)) (s32_R K)
theorem s32_p1_ok (K : Value → World → Prop) (s : Nat → Value) (w : World) (h : s32_p1 K (s 0) w) : Tr (s32_p1_den K s w) :=
  tr_simple (P := Try.prog) (codes := [(cd (Try.f32.body.getD .skip) [1, 1, 1, 1, 1, 0]), (cd (Try.f32.body.getD .skip) [1, 1, 1, 1, 1, 1, 0]), (cd (Try.f32.body.getD .skip) [1, 1, 1, 1, 1, 1, 1])]) (N := (fun _ _ => False)) (N' := (fun _ _ => False)) (X := (fun i => (fun _ _ => False))) (X' := (fun i => (fun _ _ => False))) (R := s32_R K) (s := s) (w := w) (p := s32_p1 K (s 0) w) (q := s32_p1_den K s w) tr_id (fun i => tr_id) (by kernel_rfl) (by kernel_rfl) @h
def s32_p2 (K : Value → World → Prop) (B1 : List Value → World → Prop) (t0 t32 t33 t34 : Value) (w : World) : Prop :=
  boI .add t34 (.int .i64 1) (fun t58 w =>
  B1 [t0, t32, t33, t58] w) w
def s32_p2_den (K : Value → World → Prop) (M1 : (Nat → Value) → World → Prop) : (Nat → Value) → World → Prop := denL Try.prog [(cd (Try.f32.body.getD .skip) [1, 1, 1, 1, 0, 1, 0, 0, 1, 1, 1])] M1 (fun i => (bif Nat.beq i 0 then (s32_p1_den K) else (fun _ _ => False))) (s32_R K)
theorem s32_p2_ok (K : Value → World → Prop) (B1 : List Value → World → Prop) (s : Nat → Value) (w : World) (h : s32_p2 K B1 (s 0) (s 32) (s 33) (s 34) w) : Tr (s32_p2_den K (fun s w => B1 [s 0, s 32, s 33, s 34] w) s w) :=
  tr_simple (P := Try.prog) (codes := [(cd (Try.f32.body.getD .skip) [1, 1, 1, 1, 0, 1, 0, 0, 1, 1, 1])]) (N := (fun s w => B1 [s 0, s 32, s 33, s 34] w)) (N' := (fun s w => B1 [s 0, s 32, s 33, s 34] w)) (X := (fun i => (bif Nat.beq i 0 then (fun s w => s32_p1 K (s 0) w) else (fun _ _ => False)))) (X' := (fun i => (bif Nat.beq i 0 then (s32_p1_den K) else (fun _ _ => False)))) (R := s32_R K) (s := s) (w := w) (p := s32_p2 K B1 (s 0) (s 32) (s 33) (s 34) w) (q := s32_p2_den K (fun s w => B1 [s 0, s 32, s 33, s 34] w) s w) tr_id (fun i => (tr_bif (fun s w h => s32_p1_ok K s w @h) tr_id)) (by kernel_rfl) (by kernel_rfl) @h
def s32_p3_d (K : Value → World → Prop) (B1 : List Value → World → Prop) (t0 t4 t5 t6 t32 t33 t34 : Value) (w0 w : World) : Prop :=
  nck t0 (fun t49 _ =>
  fd 2 t49 (fun t50 _ =>
  ld1 t50 (fun t51 _ =>
  sls 1 t51 (some t5) (some t6) (fun t54 _ =>
  fd 1 t4 (fun t55 _ =>
  ld1 t55 (fun t56 _ =>
  cpq 1 t54 t56 (fun t57 w =>
  s32_p2 K B1 t0 t32 t33 t34 w) w) w0) w0) w0) w0) w0) w0
def s32_p3 (K : Value → World → Prop) (B1 : List Value → World → Prop) (t0 t4 t5 t6 t32 t33 t34 : Value) (w : World) : Prop := s32_p3_d K B1 t0 t4 t5 t6 t32 t33 t34 (drw w) (drw w)
def s32_p3_den (K : Value → World → Prop) (M1 : (Nat → Value) → World → Prop) : (Nat → Value) → World → Prop := denL Try.prog [(cd (Try.f32.body.getD .skip) [1, 1, 1, 1, 0, 1, 0, 0, 1, 1, 0, 0, 1, 1])] (s32_p2_den K M1) (fun i => (bif Nat.beq i 1 then (s32_p2_den K M1) else (bif Nat.beq i 0 then (s32_p1_den K) else (fun _ _ => False)))) (s32_R K)
theorem s32_p3_ok (K : Value → World → Prop) (B1 : List Value → World → Prop) (s : Nat → Value) (w : World) (h : s32_p3 K B1 (s 0) (s 4) (s 5) (s 6) (s 32) (s 33) (s 34) w) : Tr (s32_p3_den K (fun s w => B1 [s 0, s 32, s 33, s 34] w) s w) :=
  tr_draw (P := Try.prog) (ops := (ro (cd (Try.f32.body.getD .skip) [1, 1, 1, 1, 0, 1, 0, 0, 1, 1, 0, 0, 1, 1]))) (ms := [0, 1, 3, 7, 0, 0, 63, 0, 128, 511]) (cs := [0, 1, 2, 3, 4, 5, 6, 7, 8]) (N := (fun s w => s32_p2 K B1 (s 0) (s 32) (s 33) (s 34) w)) (N' := (s32_p2_den K (fun s w => B1 [s 0, s 32, s 33, s 34] w))) (s := s) (w := w) (p := s32_p3 K B1 (s 0) (s 4) (s 5) (s 6) (s 32) (s 33) (s 34) w) (q := s32_p3_den K (fun s w => B1 [s 0, s 32, s 33, s 34] w) s w) (by kernel_rfl) (by kernel_rfl) (fun s w h => s32_p2_ok K B1 s w @h) (by kernel_rfl) (by kernel_rfl) @h
def s32_p4_d (K : Value → World → Prop) (B1 : List Value → World → Prop) (t0 t4 t32 t33 t34 : Value) (w0 w : World) : Prop :=
  nck t0 (fun t40 _ =>
  fd 0 t40 (fun t41 _ =>
  ldn 2 t41 (fun t42 _ =>
  fd 0 t4 (fun t43 _ =>
  ld1 t43 (fun t44 _ =>
  cl Try.prog 55 #[t42, t44] (fun t45 w =>
  (exq t45 0 (fun t46 w =>
  (exq t45 1 (fun t47 w =>
  s32_p3 K B1 t0 t4 t46 t47 t32 t33 t34 w) w) ∧
  (exq t45 1 (fun t47_2 w =>
  s32_p3 K B1 t0 t4 t46 t47_2 t32 t33 t34 w) w)) w) ∧
  (exq t45 1 (fun t47_3 w =>
  exq t45 0 (fun t46_2 w =>
  s32_p3 K B1 t0 t4 t46_2 t47_3 t32 t33 t34 w) w) w)) w) w0) w0) w0) w0) w0
def s32_p4 (K : Value → World → Prop) (B1 : List Value → World → Prop) (t0 t4 t32 t33 t34 : Value) (w : World) : Prop := s32_p4_d K B1 t0 t4 t32 t33 t34 (drw w) (drw w)
def s32_p4_den (K : Value → World → Prop) (M1 : (Nat → Value) → World → Prop) : (Nat → Value) → World → Prop := denL Try.prog [(cd (Try.f32.body.getD .skip) [1, 1, 1, 1, 0, 1, 0, 0, 1, 1, 0, 0, 1, 0])] (s32_p3_den K M1) (fun i => (bif Nat.beq i 1 then (s32_p2_den K M1) else (bif Nat.beq i 0 then (s32_p1_den K) else (fun _ _ => False)))) (s32_R K)
theorem s32_p4_ok (K : Value → World → Prop) (B1 : List Value → World → Prop) (s : Nat → Value) (w : World) (h : s32_p4 K B1 (s 0) (s 4) (s 32) (s 33) (s 34) w) : Tr (s32_p4_den K (fun s w => B1 [s 0, s 32, s 33, s 34] w) s w) :=
  tr_draw (P := Try.prog) (ops := (ro (cd (Try.f32.body.getD .skip) [1, 1, 1, 1, 0, 1, 0, 0, 1, 1, 0, 0, 1, 0]))) (ms := [0, 1, 3, 7, 0, 16, 63, 127, 255, 255, 511, 2047]) (cs := [0, 1, 2, 3, 4, 5]) (N := (fun s w => s32_p3 K B1 (s 0) (s 4) (s 5) (s 6) (s 32) (s 33) (s 34) w)) (N' := (s32_p3_den K (fun s w => B1 [s 0, s 32, s 33, s 34] w))) (s := s) (w := w) (p := s32_p4 K B1 (s 0) (s 4) (s 32) (s 33) (s 34) w) (q := s32_p4_den K (fun s w => B1 [s 0, s 32, s 33, s 34] w) s w) (by kernel_rfl) (by kernel_rfl) (fun s w h => s32_p3_ok K B1 s w @h) (by kernel_rfl) (by kernel_rfl) @h
def s32_p5 (K : Value → World → Prop) (B1 : List Value → World → Prop) (t0 t32 t33 t34 : Value) (w : World) : Prop :=
  ixs 2 t32 t34 (fun t36 w =>
  ldn 2 t36 (fun t37 w =>
  nw 100 #[(.int .i64 0), (.slice none 0 0)] (fun t4 w =>
  stn 2 t4 t37 (fun w =>
  s32_p4 K B1 t0 t4 t32 t33 t34 w) w) w) w) w
def s32_p5_den (K : Value → World → Prop) (M1 : (Nat → Value) → World → Prop) : (Nat → Value) → World → Prop := denL Try.prog [(cd (Try.f32.body.getD .skip) [1, 1, 1, 1, 0, 1, 0, 0, 1, 1, 0, 0, 0])] (s32_p4_den K M1) (fun i => (bif Nat.beq i 1 then (s32_p2_den K M1) else (bif Nat.beq i 0 then (s32_p1_den K) else (fun _ _ => False)))) (s32_R K)
theorem s32_p5_ok (K : Value → World → Prop) (B1 : List Value → World → Prop) (s : Nat → Value) (w : World) (h : s32_p5 K B1 (s 0) (s 32) (s 33) (s 34) w) : Tr (s32_p5_den K (fun s w => B1 [s 0, s 32, s 33, s 34] w) s w) :=
  tr_simple (P := Try.prog) (codes := [(cd (Try.f32.body.getD .skip) [1, 1, 1, 1, 0, 1, 0, 0, 1, 1, 0, 0, 0])]) (N := (fun s w => s32_p4 K B1 (s 0) (s 4) (s 32) (s 33) (s 34) w)) (N' := (s32_p4_den K (fun s w => B1 [s 0, s 32, s 33, s 34] w))) (X := (fun i => (bif Nat.beq i 1 then (fun s w => s32_p2 K B1 (s 0) (s 32) (s 33) (s 34) w) else (bif Nat.beq i 0 then (fun s w => s32_p1 K (s 0) w) else (fun _ _ => False))))) (X' := (fun i => (bif Nat.beq i 1 then (s32_p2_den K (fun s w => B1 [s 0, s 32, s 33, s 34] w)) else (bif Nat.beq i 0 then (s32_p1_den K) else (fun _ _ => False))))) (R := s32_R K) (s := s) (w := w) (p := s32_p5 K B1 (s 0) (s 32) (s 33) (s 34) w) (q := s32_p5_den K (fun s w => B1 [s 0, s 32, s 33, s 34] w) s w) (fun s w h => s32_p4_ok K B1 s w @h) (fun i => (tr_bif (fun s w h => s32_p2_ok K B1 s w @h) (tr_bif (fun s w h => s32_p1_ok K s w @h) tr_id))) (by kernel_rfl) (by kernel_rfl) @h
def s32_p6 (K : Value → World → Prop) (B1 : List Value → World → Prop) (t0 t32 t33 t34 : Value) (w : World) : Prop :=
  boI .lss t34 t33 (fun t35 w =>
  ifb t35
  (s32_p5 K B1 t0 t32 t33 t34 w)
  (s32_p1 K t0 w)) w
def s32_p6_den (K : Value → World → Prop) (M1 : (Nat → Value) → World → Prop) : (Nat → Value) → World → Prop := denL Try.prog [(cd (Try.f32.body.getD .skip) [1, 1, 1, 1, 0, 1, 0, 0, 0]), (cd (Try.f32.body.getD .skip) [1, 1, 1, 1, 0, 1, 0, 0, 1, 0])] (s32_p5_den K M1) (fun i => (bif Nat.beq i 0 then (s32_p1_den K) else (fun _ _ => False))) (s32_R K)
theorem s32_p6_ok (K : Value → World → Prop) (B1 : List Value → World → Prop) (s : Nat → Value) (w : World) (h : s32_p6 K B1 (s 0) (s 32) (s 33) (s 34) w) : Tr (s32_p6_den K (fun s w => B1 [s 0, s 32, s 33, s 34] w) s w) :=
  tr_simple (P := Try.prog) (codes := [(cd (Try.f32.body.getD .skip) [1, 1, 1, 1, 0, 1, 0, 0, 0]), (cd (Try.f32.body.getD .skip) [1, 1, 1, 1, 0, 1, 0, 0, 1, 0])]) (N := (fun s w => s32_p5 K B1 (s 0) (s 32) (s 33) (s 34) w)) (N' := (s32_p5_den K (fun s w => B1 [s 0, s 32, s 33, s 34] w))) (X := (fun i => (bif Nat.beq i 0 then (fun s w => s32_p1 K (s 0) w) else (fun _ _ => False)))) (X' := (fun i => (bif Nat.beq i 0 then (s32_p1_den K) else (fun _ _ => False)))) (R := s32_R K) (s := s) (w := w) (p := s32_p6 K B1 (s 0) (s 32) (s 33) (s 34) w) (q := s32_p6_den K (fun s w => B1 [s 0, s 32, s 33, s 34] w) s w) (fun s w h => s32_p5_ok K B1 s w @h) (fun i => (tr_bif (fun s w h => s32_p1_ok K s w @h) tr_id)) (by kernel_rfl) (by kernel_rfl) @h
def s32_p7_F (K : Value → World → Prop) (B1 : List Value → World → Prop) (l : List Value) (w : World) : Prop :=
  match l with
  | [t0, t32, t33, t34] => s32_p6 K B1 t0 t32 t33 t34 w
  | _ => False
theorem s32_p7_Fe {K : Value → World → Prop} {B1 : List Value → World → Prop} {t0 t32 t33 t34 : Value} {w : World} : s32_p7_F K B1 [t0, t32, t33, t34] w = s32_p6 K B1 t0 t32 t33 t34 w := by kernel_rfl
def s32_p7 (K : Value → World → Prop) (t0 t32 t33 t34 : Value) (w : World) : Prop :=
  LoopL (s32_p7_F K) [t0, t32, t33, t34] w
def s32_p7_den (K : Value → World → Prop) : (Nat → Value) → World → Prop := fun s w => LoopP (fun M1 s w => s32_p6_den K M1 s w) s w
theorem s32_p7_ok (K : Value → World → Prop) (s : Nat → Value) (w : World) (h : s32_p7 K (s 0) (s 32) (s 33) (s 34) w) : Tr (s32_p7_den K s w) :=
  tr_loop (G := fun N' s w => s32_p6_den K N' s w) (F := s32_p7_F K) (sel := fun s => [s 0, s 32, s 33, s 34]) (s := s) (w := w) (p := s32_p7 K (s 0) (s 32) (s 33) (s 34) w) (q := s32_p7_den K s w) (fun B s w h => s32_p6_ok K B s w @h) (by kernel_rfl) (by kernel_rfl) @h
def s32_p8 (K : Value → World → Prop) (t0 : Value) (w : World) : Prop :=
  nck t0 (fun t8 w =>
  fd 7 t8 (fun t9 w =>
  ld1 t9 (fun t10 w =>
  ifb t10
  (bdq [(.int .i64 0), (.string ⟨#[]⟩), (.int .i64 0), (.int .i64 0)] [(some (0, 1), (.int .i64 4)), (some (1, 1), (.string ⟨#[70, 108, 117, 115, 104]⟩))] (fun t11 w =>
  nw 96 (t11).cells (fun t12 w =>
  K (.iface 94 t12) w) w) w)
  (nck t0 (fun t15 w =>
  fd 12 t15 (fun t16 w =>
  fd 2 t16 (fun t17 w =>
  ld1 t17 (fun t18 w =>
  boI .add t18 (.int .i64 1) (fun t19 w =>
  nck t0 (fun t20 w =>
  fd 12 t20 (fun t21 w =>
  fd 2 t21 (fun t22 w =>
  st1 t22 t19 (fun w =>
  cl Try.prog 54 #[t0] (fun t24 w =>
  ifb t24
  (bdq [(.int .i64 0), (.string ⟨#[]⟩), (.int .i64 0), (.int .i64 0)] [(some (0, 1), (.int .i64 4)), (some (1, 1), (.string ⟨#[70, 108, 117, 115, 104]⟩))] (fun t25 w =>
  nw 96 (t25).cells (fun t26 w =>
  K (.iface 94 t26) w) w) w)
  (nck t0 (fun t29 w =>
  fd 3 t29 (fun t30 w =>
  fd 2 t30 (fun t31 w =>
  ld1 t31 (fun t32 w =>
  lnS t32 (fun t33 w =>
  s32_p7 K t0 t32 t33 (.int .i64 0) w) w) w) w) w) w)) w) w) w) w) w) w) w) w) w) w)) w) w) w
def s32_p8_den (K : Value → World → Prop) : (Nat → Value) → World → Prop := denL Try.prog [(cd (Try.f32.body.getD .skip) [0]), (cd (Try.f32.body.getD .skip) [1, 0, 0]), (cd (Try.f32.body.getD .skip) [1, 0, 1]), (cd (Try.f32.body.getD .skip) [1, 1, 0]), (cd (Try.f32.body.getD .skip) [1, 1, 1, 0, 0]), (cd (Try.f32.body.getD .skip) [1, 1, 1, 0, 1]), (cd (Try.f32.body.getD .skip) [1, 1, 1, 1, 0, 0])] (s32_p7_den K) (fun i => (fun _ _ => False)) (s32_R K)
theorem s32_p8_ok (K : Value → World → Prop) (s : Nat → Value) (w : World) (h : s32_p8 K (s 0) w) : Tr (s32_p8_den K s w) :=
  tr_simple (P := Try.prog) (codes := [(cd (Try.f32.body.getD .skip) [0]), (cd (Try.f32.body.getD .skip) [1, 0, 0]), (cd (Try.f32.body.getD .skip) [1, 0, 1]), (cd (Try.f32.body.getD .skip) [1, 1, 0]), (cd (Try.f32.body.getD .skip) [1, 1, 1, 0, 0]), (cd (Try.f32.body.getD .skip) [1, 1, 1, 0, 1]), (cd (Try.f32.body.getD .skip) [1, 1, 1, 1, 0, 0])]) (N := (fun s w => s32_p7 K (s 0) (s 32) (s 33) (s 34) w)) (N' := (s32_p7_den K)) (X := (fun i => (fun _ _ => False))) (X' := (fun i => (fun _ _ => False))) (R := s32_R K) (s := s) (w := w) (p := s32_p8 K (s 0) w) (q := s32_p8_den K s w) (fun s w h => s32_p7_ok K s w @h) (fun i => tr_id) (by kernel_rfl) (by kernel_rfl) @h
/-- the call, from the text -/
theorem c32 (t0 : Value) {K : Value → World → Prop} {w : World} (h : s32_p8 K t0 w) : cl Try.prog 32 #[t0] K w :=
  calls_of_tr (c := (Try.f32.body.getD .skip)) (fn := Try.f32) (q := s32_p8_den K (st0 #[t0]) w) Try.func32 (by kernel_rfl) (by kernel_rfl) (Nat.le_of_ble_eq_true (by kernel_rfl)) (by kernel_rfl) (by kernel_rfl) (s32_p8_ok K (st0 #[t0]) w @h)

/-! ### function 33 : e2e.disklaw.sameContent -/
def s33_R (K : Value → World → Prop) (s : Nat → Value) (w : World) : Prop := retv Try.prog s Try.f33.results.toList (fun vs => K (pack vs) w) w
def s33_p1 (K : Value → World → Prop) (t0 t1 : Value) (w : World) : Prop :=
  nw 45 (t0).cells (fun t2 w =>
  nw 45 (t1).cells (fun t3 w =>
  fd 0 t2 (fun t5 w =>
  ld1 t5 (fun t6 w =>
  fd 0 t3 (fun t7 w =>
  ld1 t7 (fun t8 w =>
  boB .eql t6 t8 (fun t9 w =>
  gd t9 true (fd 5 t2) (fun t11 w =>
  gd t9 true (ld1 t11) (fun t12 w =>
  gd t9 true (fd 5 t3) (fun t13 w =>
  gd t9 true (ld1 t13) (fun t14 w =>
  gd t9 true (cl Try.prog 47 #[t12, t14]) (fun t15 w =>
  pk t9 t15 (.bool false) (fun t16 w =>
  gd t16 true (fd 11 t2) (fun t18 w =>
  gd t16 true (ld1 t18) (fun t19 w =>
  gd t16 true (fd 11 t3) (fun t20 w =>
  gd t16 true (ld1 t20) (fun t21 w =>
  gd t16 true (cl Try.prog 27 #[t19, t21]) (fun t22 w =>
  pk t16 t22 (.bool false) (fun t23 w =>
  gd t23 true (fd 12 t2) (fun t25 w =>
  gd t23 true (ld1 t25) (fun t26 w =>
  gd t23 true (fd 12 t3) (fun t27 w =>
  gd t23 true (ld1 t27) (fun t28 w =>
  gd t23 true (cl Try.prog 27 #[t26, t28]) (fun t29 w =>
  pk t23 t29 (.bool false) (fun t30 w =>
  K t30 w) w) w) w) w) w) w) w) w) w) w) w) w) w) w) w) w) w) w) w) w) w) w) w) w) w
def s33_p1_den (K : Value → World → Prop) : (Nat → Value) → World → Prop := denL Try.prog [(cd (Try.f33.body.getD .skip) [0]), (cd (Try.f33.body.getD .skip) [1, 0]), (cd (Try.f33.body.getD .skip) [1, 1])] (fun _ _ => False) (fun i => (fun _ _ => False)) (s33_R K)
theorem s33_p1_ok (K : Value → World → Prop) (s : Nat → Value) (w : World) (h : s33_p1 K (s 0) (s 1) w) : Tr (s33_p1_den K s w) :=
  tr_simple (P := Try.prog) (codes := [(cd (Try.f33.body.getD .skip) [0]), (cd (Try.f33.body.getD .skip) [1, 0]), (cd (Try.f33.body.getD .skip) [1, 1])]) (N := (fun _ _ => False)) (N' := (fun _ _ => False)) (X := (fun i => (fun _ _ => False))) (X' := (fun i => (fun _ _ => False))) (R := s33_R K) (s := s) (w := w) (p := s33_p1 K (s 0) (s 1) w) (q := s33_p1_den K s w) tr_id (fun i => tr_id) (by kernel_rfl) (by kernel_rfl) @h
/-- the call, from the text -/
theorem c33 (t0 t1 : Value) {K : Value → World → Prop} {w : World} (h : s33_p1 K t0 t1 w) : cl Try.prog 33 #[t0, t1] K w :=
  calls_of_tr (c := (Try.f33.body.getD .skip)) (fn := Try.f33) (q := s33_p1_den K (st0 #[t0, t1]) w) Try.func33 (by kernel_rfl) (by kernel_rfl) (Nat.le_of_ble_eq_true (by kernel_rfl)) (by kernel_rfl) (by kernel_rfl) (s33_p1_ok K (st0 #[t0, t1]) w @h)

/-! ### function 34 : e2e.disk.New -/
def s34_R (K : Value → World → Prop) (s : Nat → Value) (w : World) : Prop := retv Try.prog s Try.f34.results.toList (fun vs => K (pack vs) w) w
def s34_p1 (K : Value → World → Prop) (t2 t3 : Value) (w : World) : Prop :=
  K (.tuple #[t2, t3]) w
def s34_p1_den (K : Value → World → Prop) : (Nat → Value) → World → Prop := denL Try.prog [(cd (Try.f34.body.getD .skip) [1, 1, 1])] (fun _ _ => False) (fun i => (fun _ _ => False)) (s34_R K)
theorem s34_p1_ok (K : Value → World → Prop) (s : Nat → Value) (w : World) (h : s34_p1 K (s 2) (s 3) w) : Tr (s34_p1_den K s w) :=
  tr_simple (P := Try.prog) (codes := [(cd (Try.f34.body.getD .skip) [1, 1, 1])]) (N := (fun _ _ => False)) (N' := (fun _ _ => False)) (X := (fun i => (fun _ _ => False))) (X' := (fun i => (fun _ _ => False))) (R := s34_R K) (s := s) (w := w) (p := s34_p1 K (s 2) (s 3) w) (q := s34_p1_den K s w) tr_id (fun i => tr_id) (by kernel_rfl) (by kernel_rfl) @h
def s34_p2_d (K : Value → World → Prop) (t1 : Value) (w0 w : World) : Prop :=
  ldn 2 t1 (fun t10 _ =>
  ldn 2 t1 (fun t11 _ =>
  ldn 2 t1 (fun t14 _ =>
  cl Try.prog 58 #[t11] (fun t12 w =>
  Below w0.heap.size w0 w ∧
  (mks 5 [(.int .u8 0)] 1 t12 t12 (fun t13 w =>
  Below w0.heap.size w0 w ∧
  cl Try.prog 59 #[t14] (fun t15 w =>
  Below w0.heap.size w0 w ∧
  bdq [(.int .i64 0), (.int .i64 0), (.slice none 0 0), (.int .i64 0), (.slice none 0 0), (.slice none 0 0), (.slice none 0 0), (.bool false), (.int .i64 0), (.slice none 0 0), (.int .i64 0), (.int .i64 0), (.int .i64 0), (.int .i64 0), (.int .i64 0), (.int .i64 0), (.int .i64 0)] [(some (0, 2), t10), (some (2, 1), t13), (some (3, 4), t15)] (fun t16 w =>
  nw 91 (t16).cells (fun t17 w =>
  s34_p1 K t17 .nilIface w) w) w) w) w) ∧
  (cl Try.prog 59 #[t14] (fun t15_2 w =>
  Below w0.heap.size w0 w ∧
  mks 5 [(.int .u8 0)] 1 t12 t12 (fun t13_2 w =>
  Below w0.heap.size w0 w ∧
  bdq [(.int .i64 0), (.int .i64 0), (.slice none 0 0), (.int .i64 0), (.slice none 0 0), (.slice none 0 0), (.slice none 0 0), (.bool false), (.int .i64 0), (.slice none 0 0), (.int .i64 0), (.int .i64 0), (.int .i64 0), (.int .i64 0), (.int .i64 0), (.int .i64 0), (.int .i64 0)] [(some (0, 2), t10), (some (2, 1), t13_2), (some (3, 4), t15_2)] (fun t16_2 w =>
  nw 91 (t16_2).cells (fun t17_2 w =>
  s34_p1 K t17_2 .nilIface w) w) w) w) w)) w) w0) w0) w0
def s34_p2 (K : Value → World → Prop) (t1 : Value) (w : World) : Prop := s34_p2_d K t1 (drw w) (drw w)
def s34_p2_den (K : Value → World → Prop) : (Nat → Value) → World → Prop := denL Try.prog [(cd (Try.f34.body.getD .skip) [1, 1, 0])] (s34_p1_den K) (fun i => (fun _ _ => False)) (s34_R K)
theorem s34_p2_ok (K : Value → World → Prop) (s : Nat → Value) (w : World) (h : s34_p2 K (s 1) w) : Tr (s34_p2_den K s w) :=
  tr_draw (P := Try.prog) (ops := (ro (cd (Try.f34.body.getD .skip) [1, 1, 0]))) (ms := [0, 0, 2, 6, 0, 22, 63, 127, 255, 511]) (cs := [0, 1, 4, 9]) (N := (fun s w => s34_p1 K (s 2) (s 3) w)) (N' := (s34_p1_den K)) (s := s) (w := w) (p := s34_p2 K (s 1) w) (q := s34_p2_den K s w) (by kernel_rfl) (by kernel_rfl) (fun s w h => s34_p1_ok K s w @h) (by kernel_rfl) (by kernel_rfl) @h
def s34_p3 (K : Value → World → Prop) (t0 : Value) (w : World) : Prop :=
  nw 65 (t0).cells (fun t1 w =>
  ldn 2 t1 (fun t4 w =>
  cl Try.prog 57 #[t4] (fun t5 w =>
  un .not t5 (fun t6 w =>
  ifb t6
  (bdq [(.int .i64 0), (.string ⟨#[]⟩), (.int .i64 0), (.int .i64 0)] [(some (0, 1), (.int .i64 6)), (some (1, 1), (.string ⟨#[78, 101, 119]⟩))] (fun t7 w =>
  nw 96 (t7).cells (fun t8 w =>
  K (.tuple #[(.pointer none), (.iface 94 t8)]) w) w) w)
  (s34_p2 K t1 w)) w) w) w) w
def s34_p3_den (K : Value → World → Prop) : (Nat → Value) → World → Prop := denL Try.prog [(cd (Try.f34.body.getD .skip) [0]), (cd (Try.f34.body.getD .skip) [1, 0, 0]), (cd (Try.f34.body.getD .skip) [1, 0, 1])] (s34_p2_den K) (fun i => (fun _ _ => False)) (s34_R K)
theorem s34_p3_ok (K : Value → World → Prop) (s : Nat → Value) (w : World) (h : s34_p3 K (s 0) w) : Tr (s34_p3_den K s w) :=
  tr_simple (P := Try.prog) (codes := [(cd (Try.f34.body.getD .skip) [0]), (cd (Try.f34.body.getD .skip) [1, 0, 0]), (cd (Try.f34.body.getD .skip) [1, 0, 1])]) (N := (fun s w => s34_p2 K (s 1) w)) (N' := (s34_p2_den K)) (X := (fun i => (fun _ _ => False))) (X' := (fun i => (fun _ _ => False))) (R := s34_R K) (s := s) (w := w) (p := s34_p3 K (s 0) w) (q := s34_p3_den K s w) (fun s w h => s34_p2_ok K s w @h) (fun i => tr_id) (by kernel_rfl) (by kernel_rfl) @h
/-- the call, from the text -/
theorem c34 (t0 : Value) {K : Value → World → Prop} {w : World} (h : s34_p3 K t0 w) : cl Try.prog 34 #[t0] K w :=
  calls_of_tr (c := (Try.f34.body.getD .skip)) (fn := Try.f34) (q := s34_p3_den K (st0 #[t0]) w) Try.func34 (by kernel_rfl) (by kernel_rfl) (Nat.le_of_ble_eq_true (by kernel_rfl)) (by kernel_rfl) (by kernel_rfl) (s34_p3_ok K (st0 #[t0]) w @h)

/-! ### function 35 : (*e2e.disk.Disk).Geometry -/
def s35_R (K : Value → World → Prop) (s : Nat → Value) (w : World) : Prop := retv Try.prog s Try.f35.results.toList (fun vs => K (pack vs) w) w
def s35_p1 (K : Value → World → Prop) (t0 : Value) (w : World) : Prop :=
  nw 65 #[(.int .i64 0), (.int .i64 0)] (fun t2 w =>
  nck t0 (fun t4 w =>
  fd 0 t4 (fun t5 w =>
  ldn 2 t5 (fun t6 w =>
  stn 2 t2 t6 (fun w =>
  ldn 2 t2 (fun r0 _ =>
  K r0 w) w) w) w) w) w) w
def s35_p1_den (K : Value → World → Prop) : (Nat → Value) → World → Prop := denL Try.prog [(cd (Try.f35.body.getD .skip) [0]), (cd (Try.f35.body.getD .skip) [1, 0]), (cd (Try.f35.body.getD .skip) [1, 1])] (fun _ _ => False) (fun i => (fun _ _ => False)) (s35_R K)
theorem s35_p1_ok (K : Value → World → Prop) (s : Nat → Value) (w : World) (h : s35_p1 K (s 0) w) : Tr (s35_p1_den K s w) :=
  tr_simple (P := Try.prog) (codes := [(cd (Try.f35.body.getD .skip) [0]), (cd (Try.f35.body.getD .skip) [1, 0]), (cd (Try.f35.body.getD .skip) [1, 1])]) (N := (fun _ _ => False)) (N' := (fun _ _ => False)) (X := (fun i => (fun _ _ => False))) (X' := (fun i => (fun _ _ => False))) (R := s35_R K) (s := s) (w := w) (p := s35_p1 K (s 0) w) (q := s35_p1_den K s w) tr_id (fun i => tr_id) (by kernel_rfl) (by kernel_rfl) @h
/-- the call, from the text -/
theorem c35 (t0 : Value) {K : Value → World → Prop} {w : World} (h : s35_p1 K t0 w) : cl Try.prog 35 #[t0] K w :=
  calls_of_tr (c := (Try.f35.body.getD .skip)) (fn := Try.f35) (q := s35_p1_den K (st0 #[t0]) w) Try.func35 (by kernel_rfl) (by kernel_rfl) (Nat.le_of_ble_eq_true (by kernel_rfl)) (by kernel_rfl) (by kernel_rfl) (s35_p1_ok K (st0 #[t0]) w @h)

/-! ### function 36 : (*e2e.disk.Disk).Write -/
def s36_R (K : Value → World → Prop) (s : Nat → Value) (w : World) : Prop := retv Try.prog s Try.f36.results.toList (fun vs => K (pack vs) w) w
def s36_p1 (K : Value → World → Prop) (t0 t1 t2 : Value) (w : World) : Prop :=
  lnS t2 (fun t11 w =>
  cl Try.prog 60 #[t0, (.string ⟨#[87, 114, 105, 116, 101]⟩), t1, t11] (fun t12 w =>
  boF Try.prog true .neq t12 .nilIface (fun t14 w =>
  ifb t14
  (K t12 w)
  (nck t0 (fun t17 w =>
  fd 3 t17 (fun t18 w =>
  cl Try.prog 61 #[t18, t1, t2] (fun t21 w =>
  nck t0 (fun t23 w =>
  fd 12 t23 (fun t24 w =>
  fd 1 t24 (fun t25 w =>
  ld1 t25 (fun t26 w =>
  boI .add t26 (.int .i64 1) (fun t27 w =>
  nck t0 (fun t28 w =>
  fd 12 t28 (fun t29 w =>
  fd 1 t29 (fun t30 w =>
  st1 t30 t27 (fun w =>
  cl Try.prog 54 #[t0] (fun t32 w =>
  ifb t32
  (lnS t2 (fun t35 w =>
  bdq [(.int .i64 0), (.string ⟨#[]⟩), (.int .i64 0), (.int .i64 0)] [(some (0, 1), (.int .i64 4)), (some (1, 1), (.string ⟨#[87, 114, 105, 116, 101]⟩)), (some (2, 1), t1), (some (3, 1), t35)] (fun t36 w =>
  nw 96 (t36).cells (fun t37 w =>
  K (.iface 94 t37) w) w) w) w)
  (K .nilIface w)) w) w) w) w) w) w) w) w) w) w) w) w) w)) w) w) w
def s36_p1_den (K : Value → World → Prop) : (Nat → Value) → World → Prop := denL Try.prog [(cd (Try.f36.body.getD .skip) [0]), (cd (Try.f36.body.getD .skip) [1, 0, 0]), (cd (Try.f36.body.getD .skip) [1, 0, 1, 0]), (cd (Try.f36.body.getD .skip) [1, 0, 1, 1]), (cd (Try.f36.body.getD .skip) [1, 1, 0]), (cd (Try.f36.body.getD .skip) [1, 1, 1, 0]), (cd (Try.f36.body.getD .skip) [1, 1, 1, 1, 0, 0]), (cd (Try.f36.body.getD .skip) [1, 1, 1, 1, 0, 1]), (cd (Try.f36.body.getD .skip) [1, 1, 1, 1, 1, 0]), (cd (Try.f36.body.getD .skip) [1, 1, 1, 1, 1, 1])] (fun _ _ => False) (fun i => (fun _ _ => False)) (s36_R K)
theorem s36_p1_ok (K : Value → World → Prop) (s : Nat → Value) (w : World) (h : s36_p1 K (s 0) (s 1) (s 2) w) : Tr (s36_p1_den K s w) :=
  tr_simple (P := Try.prog) (codes := [(cd (Try.f36.body.getD .skip) [0]), (cd (Try.f36.body.getD .skip) [1, 0, 0]), (cd (Try.f36.body.getD .skip) [1, 0, 1, 0]), (cd (Try.f36.body.getD .skip) [1, 0, 1, 1]), (cd (Try.f36.body.getD .skip) [1, 1, 0]), (cd (Try.f36.body.getD .skip) [1, 1, 1, 0]), (cd (Try.f36.body.getD .skip) [1, 1, 1, 1, 0, 0]), (cd (Try.f36.body.getD .skip) [1, 1, 1, 1, 0, 1]), (cd (Try.f36.body.getD .skip) [1, 1, 1, 1, 1, 0]), (cd (Try.f36.body.getD .skip) [1, 1, 1, 1, 1, 1])]) (N := (fun _ _ => False)) (N' := (fun _ _ => False)) (X := (fun i => (fun _ _ => False))) (X' := (fun i => (fun _ _ => False))) (R := s36_R K) (s := s) (w := w) (p := s36_p1 K (s 0) (s 1) (s 2) w) (q := s36_p1_den K s w) tr_id (fun i => tr_id) (by kernel_rfl) (by kernel_rfl) @h
/-- the call, from the text -/
theorem c36 (t0 t1 t2 : Value) {K : Value → World → Prop} {w : World} (h : s36_p1 K t0 t1 t2 w) : cl Try.prog 36 #[t0, t1, t2] K w :=
  calls_of_tr (c := (Try.f36.body.getD .skip)) (fn := Try.f36) (q := s36_p1_den K (st0 #[t0, t1, t2]) w) Try.func36 (by kernel_rfl) (by kernel_rfl) (Nat.le_of_ble_eq_true (by kernel_rfl)) (by kernel_rfl) (by kernel_rfl) (s36_p1_ok K (st0 #[t0, t1, t2]) w @h)

/-! ### function 37 : (*e2e.disk.Disk).Read -/
def s37_R (K : Value → World → Prop) (s : Nat → Value) (w : World) : Prop := retv Try.prog s Try.f37.results.toList (fun vs => K (pack vs) w) w
def s37_p1 (K : Value → World → Prop) (t0 : Value) (w : World) : Prop :=
  nck t0 (fun t48 w =>
  fd 12 t48 (fun t49 w =>
  fd 0 t49 (fun t50 w =>
  ld1 t50 (fun t51 w =>
  boI .add t51 (.int .i64 1) (fun t52 w =>
  nck t0 (fun t53 w =>
  fd 12 t53 (fun t54 w =>
  fd 0 t54 (fun t55 w =>
  st1 t55 t52 (fun w =>
  K .nilIface w) w) w) w) w) w) w) w) w) w
def s37_p1_den (K : Value → World → Prop) : (Nat → Value) → World → Prop := denL Try.prog [(cd (Try.f37.body.getD .skip) [1, 1, 1, 0]), (cd (Try.f37.body.getD .skip) [1, 1, 1, 1, 0]), (cd (Try.f37.body.getD .skip) [1, 1, 1, 1, 1])] (fun _ _ => False) (fun i => (fun _ _ => False)) (s37_R K)
theorem s37_p1_ok (K : Value → World → Prop) (s : Nat → Value) (w : World) (h : s37_p1 K (s 0) w) : Tr (s37_p1_den K s w) :=
  tr_simple (P := Try.prog) (codes := [(cd (Try.f37.body.getD .skip) [1, 1, 1, 0]), (cd (Try.f37.body.getD .skip) [1, 1, 1, 1, 0]), (cd (Try.f37.body.getD .skip) [1, 1, 1, 1, 1])]) (N := (fun _ _ => False)) (N' := (fun _ _ => False)) (X := (fun i => (fun _ _ => False))) (X' := (fun i => (fun _ _ => False))) (R := s37_R K) (s := s) (w := w) (p := s37_p1 K (s 0) w) (q := s37_p1_den K s w) tr_id (fun i => tr_id) (by kernel_rfl) (by kernel_rfl) @h
def s37_p2 (K : Value → World → Prop) (t0 t1 t2 : Value) (w : World) : Prop :=
  lnS t2 (fun t14 w =>
  cl Try.prog 60 #[t0, (.string ⟨#[82, 101, 97, 100]⟩), t1, t14] (fun t15 w =>
  boF Try.prog true .neq t15 .nilIface (fun t17 w =>
  ifb t17
  (K t15 w)
  (nck t0 (fun t20 w =>
  fd 3 t20 (fun t21 w =>
  cl Try.prog 62 #[t21, t1] (fun t23 w =>
  boZ .neq t23 (.slice none 0 0) (fun t25 w =>
  ifb t25
  (cpq 1 t2 t23 (fun t28 w =>
  s37_p1 K t0 w) w)
  (nck t0 (fun t31 w =>
  fd 0 t31 (fun t32 w =>
  ldn 2 t32 (fun t33 w =>
  cl Try.prog 55 #[t33, t1] (fun t35 w =>
  exq t35 0 (fun t36 w =>
  exq t35 1 (fun t37 w =>
  nck t0 (fun t40 w =>
  fd 2 t40 (fun t41 w =>
  ld1 t41 (fun t42 w =>
  sls 1 t42 (some t36) (some t37) (fun t45 w =>
  cpq 1 t2 t45 (fun t46 w =>
  s37_p1 K t0 w) w) w) w) w) w) w) w) w) w) w) w)) w) w) w) w)) w) w) w
def s37_p2_den (K : Value → World → Prop) : (Nat → Value) → World → Prop := denL Try.prog [(cd (Try.f37.body.getD .skip) [0]), (cd (Try.f37.body.getD .skip) [1, 0, 0]), (cd (Try.f37.body.getD .skip) [1, 0, 1, 0]), (cd (Try.f37.body.getD .skip) [1, 0, 1, 1]), (cd (Try.f37.body.getD .skip) [1, 1, 0, 0]), (cd (Try.f37.body.getD .skip) [1, 1, 0, 1, 0]), (cd (Try.f37.body.getD .skip) [1, 1, 0, 1, 1])] (s37_p1_den K) (fun i => (fun _ _ => False)) (s37_R K)
theorem s37_p2_ok (K : Value → World → Prop) (s : Nat → Value) (w : World) (h : s37_p2 K (s 0) (s 1) (s 2) w) : Tr (s37_p2_den K s w) :=
  tr_simple (P := Try.prog) (codes := [(cd (Try.f37.body.getD .skip) [0]), (cd (Try.f37.body.getD .skip) [1, 0, 0]), (cd (Try.f37.body.getD .skip) [1, 0, 1, 0]), (cd (Try.f37.body.getD .skip) [1, 0, 1, 1]), (cd (Try.f37.body.getD .skip) [1, 1, 0, 0]), (cd (Try.f37.body.getD .skip) [1, 1, 0, 1, 0]), (cd (Try.f37.body.getD .skip) [1, 1, 0, 1, 1])]) (N := (fun s w => s37_p1 K (s 0) w)) (N' := (s37_p1_den K)) (X := (fun i => (fun _ _ => False))) (X' := (fun i => (fun _ _ => False))) (R := s37_R K) (s := s) (w := w) (p := s37_p2 K (s 0) (s 1) (s 2) w) (q := s37_p2_den K s w) (fun s w h => s37_p1_ok K s w @h) (fun i => tr_id) (by kernel_rfl) (by kernel_rfl) @h
/-- the call, from the text -/
theorem c37 (t0 t1 t2 : Value) {K : Value → World → Prop} {w : World} (h : s37_p2 K t0 t1 t2 w) : cl Try.prog 37 #[t0, t1, t2] K w :=
  calls_of_tr (c := (Try.f37.body.getD .skip)) (fn := Try.f37) (q := s37_p2_den K (st0 #[t0, t1, t2]) w) Try.func37 (by kernel_rfl) (by kernel_rfl) (Nat.le_of_ble_eq_true (by kernel_rfl)) (by kernel_rfl) (by kernel_rfl) (s37_p2_ok K (st0 #[t0, t1, t2]) w @h)

/-! ### function 38 : (*e2e.disk.Disk).Arm -/
def s38_R (K : Value → World → Prop) (s : Nat → Value) (w : World) : Prop := retv Try.prog s Try.f38.results.toList (fun vs => K (pack vs) w) w
def s38_p1 (K : Value → World → Prop) (t0 t1 t2 : Value) (w : World) : Prop :=
  nw 32 (t2).cells (fun t5 w =>
  nck t0 (fun t8 w =>
  fd 7 t8 (fun t9 w =>
  ld1 t9 (fun t10 w =>
  ifb t10
  (bdq [(.int .i64 0), (.string ⟨#[]⟩), (.int .i64 0), (.int .i64 0)] [(some (0, 1), (.int .i64 4)), (some (1, 1), (.string ⟨#[65, 114, 109]⟩))] (fun t11 w =>
  nw 96 (t11).cells (fun t12 w =>
  K (.iface 94 t12) w) w) w)
  (boI .lss t1 (.int .i64 1) (fun t15 w =>
  ifb t15
  (bdq [(.int .i64 0), (.string ⟨#[]⟩), (.int .i64 0), (.int .i64 0)] [(some (0, 1), (.int .i64 3)), (some (1, 1), (.string ⟨#[65, 114, 109]⟩))] (fun t16 w =>
  nw 96 (t16).cells (fun t17 w =>
  K (.iface 94 t17) w) w) w)
  (ldn 3 t5 (fun t21 w =>
  cl Try.prog 51 #[t21] (fun t22 w =>
  bdq [(.int .i64 0), (.slice none 0 0), (.int .i64 0), (.int .i64 0)] [(some (0, 1), t1), (some (1, 3), t22)] (fun t23 w =>
  nck t0 (fun t24 w =>
  fd 8 t24 (fun t25 w =>
  stn 4 t25 t23 (fun w =>
  K .nilIface w) w) w) w) w) w) w)) w)) w) w) w) w
def s38_p1_den (K : Value → World → Prop) : (Nat → Value) → World → Prop := denL Try.prog [(cd (Try.f38.body.getD .skip) [0]), (cd (Try.f38.body.getD .skip) [1, 0, 0]), (cd (Try.f38.body.getD .skip) [1, 0, 1]), (cd (Try.f38.body.getD .skip) [1, 1, 0, 0]), (cd (Try.f38.body.getD .skip) [1, 1, 0, 1]), (cd (Try.f38.body.getD .skip) [1, 1, 1, 0]), (cd (Try.f38.body.getD .skip) [1, 1, 1, 1, 0]), (cd (Try.f38.body.getD .skip) [1, 1, 1, 1, 1])] (fun _ _ => False) (fun i => (fun _ _ => False)) (s38_R K)
theorem s38_p1_ok (K : Value → World → Prop) (s : Nat → Value) (w : World) (h : s38_p1 K (s 0) (s 1) (s 2) w) : Tr (s38_p1_den K s w) :=
  tr_simple (P := Try.prog) (codes := [(cd (Try.f38.body.getD .skip) [0]), (cd (Try.f38.body.getD .skip) [1, 0, 0]), (cd (Try.f38.body.getD .skip) [1, 0, 1]), (cd (Try.f38.body.getD .skip) [1, 1, 0, 0]), (cd (Try.f38.body.getD .skip) [1, 1, 0, 1]), (cd (Try.f38.body.getD .skip) [1, 1, 1, 0]), (cd (Try.f38.body.getD .skip) [1, 1, 1, 1, 0]), (cd (Try.f38.body.getD .skip) [1, 1, 1, 1, 1])]) (N := (fun _ _ => False)) (N' := (fun _ _ => False)) (X := (fun i => (fun _ _ => False))) (X' := (fun i => (fun _ _ => False))) (R := s38_R K) (s := s) (w := w) (p := s38_p1 K (s 0) (s 1) (s 2) w) (q := s38_p1_den K s w) tr_id (fun i => tr_id) (by kernel_rfl) (by kernel_rfl) @h
/-- the call, from the text -/
theorem c38 (t0 t1 t2 : Value) {K : Value → World → Prop} {w : World} (h : s38_p1 K t0 t1 t2 w) : cl Try.prog 38 #[t0, t1, t2] K w :=
  calls_of_tr (c := (Try.f38.body.getD .skip)) (fn := Try.f38) (q := s38_p1_den K (st0 #[t0, t1, t2]) w) Try.func38 (by kernel_rfl) (by kernel_rfl) (Nat.le_of_ble_eq_true (by kernel_rfl)) (by kernel_rfl) (by kernel_rfl) (s38_p1_ok K (st0 #[t0, t1, t2]) w @h)

/-! ### function 39 : (*e2e.disk.Disk).Disarm -/
def s39_R (K : Value → World → Prop) (s : Nat → Value) (w : World) : Prop := retv Try.prog s Try.f39.results.toList (fun vs => K (pack vs) w) w
def s39_p1 (K : Value → World → Prop) (t0 : Value) (w : World) : Prop :=
  nck t0 (fun t4 w =>
  fd 7 t4 (fun t5 w =>
  ld1 t5 (fun t6 w =>
  ifb t6
  (bdq [(.int .i64 0), (.string ⟨#[]⟩), (.int .i64 0), (.int .i64 0)] [(some (0, 1), (.int .i64 4)), (some (1, 1), (.string ⟨#[68, 105, 115, 97, 114, 109]⟩))] (fun t7 w =>
  nw 96 (t7).cells (fun t8 w =>
  K (.iface 94 t8) w) w) w)
  (bdq [(.int .i64 0), (.slice none 0 0), (.int .i64 0), (.int .i64 0)] [] (fun t11 w =>
  nck t0 (fun t12 w =>
  fd 8 t12 (fun t13 w =>
  stn 4 t13 t11 (fun w =>
  K .nilIface w) w) w) w) w)) w) w) w
def s39_p1_den (K : Value → World → Prop) : (Nat → Value) → World → Prop := denL Try.prog [(cd (Try.f39.body.getD .skip) [0]), (cd (Try.f39.body.getD .skip) [1, 0, 0]), (cd (Try.f39.body.getD .skip) [1, 0, 1]), (cd (Try.f39.body.getD .skip) [1, 1, 0]), (cd (Try.f39.body.getD .skip) [1, 1, 1, 0]), (cd (Try.f39.body.getD .skip) [1, 1, 1, 1])] (fun _ _ => False) (fun i => (fun _ _ => False)) (s39_R K)
theorem s39_p1_ok (K : Value → World → Prop) (s : Nat → Value) (w : World) (h : s39_p1 K (s 0) w) : Tr (s39_p1_den K s w) :=
  tr_simple (P := Try.prog) (codes := [(cd (Try.f39.body.getD .skip) [0]), (cd (Try.f39.body.getD .skip) [1, 0, 0]), (cd (Try.f39.body.getD .skip) [1, 0, 1]), (cd (Try.f39.body.getD .skip) [1, 1, 0]), (cd (Try.f39.body.getD .skip) [1, 1, 1, 0]), (cd (Try.f39.body.getD .skip) [1, 1, 1, 1])]) (N := (fun _ _ => False)) (N' := (fun _ _ => False)) (X := (fun i => (fun _ _ => False))) (X' := (fun i => (fun _ _ => False))) (R := s39_R K) (s := s) (w := w) (p := s39_p1 K (s 0) w) (q := s39_p1_den K s w) tr_id (fun i => tr_id) (by kernel_rfl) (by kernel_rfl) @h
/-- the call, from the text -/
theorem c39 (t0 : Value) {K : Value → World → Prop} {w : World} (h : s39_p1 K t0 w) : cl Try.prog 39 #[t0] K w :=
  calls_of_tr (c := (Try.f39.body.getD .skip)) (fn := Try.f39) (q := s39_p1_den K (st0 #[t0]) w) Try.func39 (by kernel_rfl) (by kernel_rfl) (Nat.le_of_ble_eq_true (by kernel_rfl)) (by kernel_rfl) (by kernel_rfl) (s39_p1_ok K (st0 #[t0]) w @h)

/-! ### function 40 : (*e2e.diskm.Disk).Write -/
def s40_R (K : Value → World → Prop) (s : Nat → Value) (w : World) : Prop := retv Try.prog s Try.f40.results.toList (fun vs => K (pack vs) w) w
def s40_p1 (K : Value → World → Prop) (t0 : Value) (w : World) : Prop :=
  nck t0 (fun t25 w =>
  fd 29 t25 (fun t26 w =>
  fd 1 t26 (fun t27 w =>
  ld1 t27 (fun t28 w =>
  boI .add t28 (.int .i64 1) (fun t29 w =>
  nck t0 (fun t30 w =>
  fd 29 t30 (fun t31 w =>
  fd 1 t31 (fun t32 w =>
  st1 t32 t29 (fun w =>
  cl Try.prog 64 #[t0] (fun t34 w =>
  K t34 w) w) w) w) w) w) w) w) w) w) w
def s40_p1_den (K : Value → World → Prop) : (Nat → Value) → World → Prop := denL Try.prog [(cd (Try.f40.body.getD .skip) [1, 1, 1, 0]), (cd (Try.f40.body.getD .skip) [1, 1, 1, 1, 0]), (cd (Try.f40.body.getD .skip) [1, 1, 1, 1, 1])] (fun _ _ => False) (fun i => (fun _ _ => False)) (s40_R K)
theorem s40_p1_ok (K : Value → World → Prop) (s : Nat → Value) (w : World) (h : s40_p1 K (s 0) w) : Tr (s40_p1_den K s w) :=
  tr_simple (P := Try.prog) (codes := [(cd (Try.f40.body.getD .skip) [1, 1, 1, 0]), (cd (Try.f40.body.getD .skip) [1, 1, 1, 1, 0]), (cd (Try.f40.body.getD .skip) [1, 1, 1, 1, 1])]) (N := (fun _ _ => False)) (N' := (fun _ _ => False)) (X := (fun i => (fun _ _ => False))) (X' := (fun i => (fun _ _ => False))) (R := s40_R K) (s := s) (w := w) (p := s40_p1 K (s 0) w) (q := s40_p1_den K s w) tr_id (fun i => tr_id) (by kernel_rfl) (by kernel_rfl) @h
def s40_p2_d (K : Value → World → Prop) (t0 t1 t2 : Value) (w0 w : World) : Prop :=
  nck t0 (fun t21 _ =>
  fd 12 t21 (fun t22 _ =>
  ixa 12 1 t22 t1 (fun t23 _ =>
  bsq 5 [(.int .u8 0)] 0 [] (fun t18 w =>
  apq 5 [(.int .u8 0)] 1 t18 t2 (fun t20 w =>
  st1 t23 t20 (fun w =>
  s40_p1 K t0 w) w) w) w) w0) w0) w0
def s40_p2 (K : Value → World → Prop) (t0 t1 t2 : Value) (w : World) : Prop := s40_p2_d K t0 t1 t2 (drw w) (drw w)
def s40_p2_den (K : Value → World → Prop) : (Nat → Value) → World → Prop := denL Try.prog [(cd (Try.f40.body.getD .skip) [1, 1, 0])] (s40_p1_den K) (fun i => (fun _ _ => False)) (s40_R K)
theorem s40_p2_ok (K : Value → World → Prop) (s : Nat → Value) (w : World) (h : s40_p2 K (s 0) (s 1) (s 2) w) : Tr (s40_p2_den K s w) :=
  tr_draw (P := Try.prog) (ops := (ro (cd (Try.f40.body.getD .skip) [1, 1, 0]))) (ms := [0, 0, 0, 0, 12, 1, 33, 127, 255]) (cs := [0, 1, 3, 5, 6, 7]) (N := (fun s w => s40_p1 K (s 0) w)) (N' := (s40_p1_den K)) (s := s) (w := w) (p := s40_p2 K (s 0) (s 1) (s 2) w) (q := s40_p2_den K s w) (by kernel_rfl) (by kernel_rfl) (fun s w h => s40_p1_ok K s w @h) (by kernel_rfl) (by kernel_rfl) @h
def s40_p3 (K : Value → World → Prop) (t0 t1 t2 : Value) (w : World) : Prop :=
  lnS t2 (fun t11 w =>
  cl Try.prog 63 #[t0, t1, t11] (fun t12 w =>
  boI .neq t12 (.int .i64 0) (fun t14 w =>
  ifb t14
  (K t12 w)
  (s40_p2 K t0 t1 t2 w)) w) w) w
def s40_p3_den (K : Value → World → Prop) : (Nat → Value) → World → Prop := denL Try.prog [(cd (Try.f40.body.getD .skip) [0]), (cd (Try.f40.body.getD .skip) [1, 0, 0]), (cd (Try.f40.body.getD .skip) [1, 0, 1, 0]), (cd (Try.f40.body.getD .skip) [1, 0, 1, 1])] (s40_p2_den K) (fun i => (fun _ _ => False)) (s40_R K)
theorem s40_p3_ok (K : Value → World → Prop) (s : Nat → Value) (w : World) (h : s40_p3 K (s 0) (s 1) (s 2) w) : Tr (s40_p3_den K s w) :=
  tr_simple (P := Try.prog) (codes := [(cd (Try.f40.body.getD .skip) [0]), (cd (Try.f40.body.getD .skip) [1, 0, 0]), (cd (Try.f40.body.getD .skip) [1, 0, 1, 0]), (cd (Try.f40.body.getD .skip) [1, 0, 1, 1])]) (N := (fun s w => s40_p2 K (s 0) (s 1) (s 2) w)) (N' := (s40_p2_den K)) (X := (fun i => (fun _ _ => False))) (X' := (fun i => (fun _ _ => False))) (R := s40_R K) (s := s) (w := w) (p := s40_p3 K (s 0) (s 1) (s 2) w) (q := s40_p3_den K s w) (fun s w h => s40_p2_ok K s w @h) (fun i => tr_id) (by kernel_rfl) (by kernel_rfl) @h
/-- the call, from the text -/
theorem c40 (t0 t1 t2 : Value) {K : Value → World → Prop} {w : World} (h : s40_p3 K t0 t1 t2 w) : cl Try.prog 40 #[t0, t1, t2] K w :=
  calls_of_tr (c := (Try.f40.body.getD .skip)) (fn := Try.f40) (q := s40_p3_den K (st0 #[t0, t1, t2]) w) Try.func40 (by kernel_rfl) (by kernel_rfl) (Nat.le_of_ble_eq_true (by kernel_rfl)) (by kernel_rfl) (by kernel_rfl) (s40_p3_ok K (st0 #[t0, t1, t2]) w @h)

/-! ### function 41 : (*e2e.diskm.Disk).Read -/
def s41_R (K : Value → World → Prop) (s : Nat → Value) (w : World) : Prop := retv Try.prog s Try.f41.results.toList (fun vs => K (pack vs) w) w
def s41_p1 (K : Value → World → Prop) (t0 t1 t2 : Value) (w : World) : Prop :=
  cl Try.prog 63 #[t0, t1, t2] (fun t12 w =>
  boI .neq t12 (.int .i64 0) (fun t14 w =>
  ifb t14
  (K (.tuple #[(.slice none 0 0), t12]) w)
  (nck t0 (fun t17 w =>
  fd 29 t17 (fun t18 w =>
  fd 0 t18 (fun t19 w =>
  ld1 t19 (fun t20 w =>
  boI .add t20 (.int .i64 1) (fun t21 w =>
  nck t0 (fun t22 w =>
  fd 29 t22 (fun t23 w =>
  fd 0 t23 (fun t24 w =>
  st1 t24 t21 (fun w =>
  cl Try.prog 50 #[t0, t1] (fun t27 w =>
  K (.tuple #[t27, (.int .i64 0)]) w) w) w) w) w) w) w) w) w) w) w)) w) w
def s41_p1_den (K : Value → World → Prop) : (Nat → Value) → World → Prop := denL Try.prog [(cd (Try.f41.body.getD .skip) [0]), (cd (Try.f41.body.getD .skip) [1, 0, 0]), (cd (Try.f41.body.getD .skip) [1, 0, 1, 0]), (cd (Try.f41.body.getD .skip) [1, 0, 1, 1]), (cd (Try.f41.body.getD .skip) [1, 1, 0]), (cd (Try.f41.body.getD .skip) [1, 1, 1, 0]), (cd (Try.f41.body.getD .skip) [1, 1, 1, 1])] (fun _ _ => False) (fun i => (fun _ _ => False)) (s41_R K)
theorem s41_p1_ok (K : Value → World → Prop) (s : Nat → Value) (w : World) (h : s41_p1 K (s 0) (s 1) (s 2) w) : Tr (s41_p1_den K s w) :=
  tr_simple (P := Try.prog) (codes := [(cd (Try.f41.body.getD .skip) [0]), (cd (Try.f41.body.getD .skip) [1, 0, 0]), (cd (Try.f41.body.getD .skip) [1, 0, 1, 0]), (cd (Try.f41.body.getD .skip) [1, 0, 1, 1]), (cd (Try.f41.body.getD .skip) [1, 1, 0]), (cd (Try.f41.body.getD .skip) [1, 1, 1, 0]), (cd (Try.f41.body.getD .skip) [1, 1, 1, 1])]) (N := (fun _ _ => False)) (N' := (fun _ _ => False)) (X := (fun i => (fun _ _ => False))) (X' := (fun i => (fun _ _ => False))) (R := s41_R K) (s := s) (w := w) (p := s41_p1 K (s 0) (s 1) (s 2) w) (q := s41_p1_den K s w) tr_id (fun i => tr_id) (by kernel_rfl) (by kernel_rfl) @h
/-- the call, from the text -/
theorem c41 (t0 t1 t2 : Value) {K : Value → World → Prop} {w : World} (h : s41_p1 K t0 t1 t2 w) : cl Try.prog 41 #[t0, t1, t2] K w :=
  calls_of_tr (c := (Try.f41.body.getD .skip)) (fn := Try.f41) (q := s41_p1_den K (st0 #[t0, t1, t2]) w) Try.func41 (by kernel_rfl) (by kernel_rfl) (Nat.le_of_ble_eq_true (by kernel_rfl)) (by kernel_rfl) (by kernel_rfl) (s41_p1_ok K (st0 #[t0, t1, t2]) w @h)

/-! ### function 42 : (*e2e.diskm.Disk).Flush -/
def s42_R (K : Value → World → Prop) (s : Nat → Value) (w : World) : Prop := retv Try.prog s Try.f42.results.toList (fun vs => K (pack vs) w) w
def s42_p1 (K : Value → World → Prop) (w : World) : Prop :=
  K (.int .i64 0) w
def s42_p1_den (K : Value → World → Prop) : (Nat → Value) → World → Prop := denL Try.prog [(cd (Try.f42.body.getD .skip) [1, 1, 1, 1, 1, 0]), (cd (Try.f42.body.getD .skip) [1, 1, 1, 1, 1, 1])] (fun _ _ => False) (fun i => (fun _ _ => False)) (s42_R K)
theorem s42_p1_ok (K : Value → World → Prop) (s : Nat → Value) (w : World) (h : s42_p1 K w) : Tr (s42_p1_den K s w) :=
  tr_simple (P := Try.prog) (codes := [(cd (Try.f42.body.getD .skip) [1, 1, 1, 1, 1, 0]), (cd (Try.f42.body.getD .skip) [1, 1, 1, 1, 1, 1])]) (N := (fun _ _ => False)) (N' := (fun _ _ => False)) (X := (fun i => (fun _ _ => False))) (X' := (fun i => (fun _ _ => False))) (R := s42_R K) (s := s) (w := w) (p := s42_p1 K w) (q := s42_p1_den K s w) tr_id (fun i => tr_id) (by kernel_rfl) (by kernel_rfl) @h
def s42_p2 (K : Value → World → Prop) (B1 : List Value → World → Prop) (t0 t23 : Value) (w : World) : Prop :=
  boI .add t23 (.int .i64 1) (fun t49 w =>
  B1 [t0, t49] w) w
def s42_p2_den (K : Value → World → Prop) (M1 : (Nat → Value) → World → Prop) : (Nat → Value) → World → Prop := denL Try.prog [(cd (Try.f42.body.getD .skip) [1, 1, 1, 1, 0, 1, 0, 0, 1, 1, 1])] M1 (fun i => (bif Nat.beq i 0 then (s42_p1_den K) else (fun _ _ => False))) (s42_R K)
theorem s42_p2_ok (K : Value → World → Prop) (B1 : List Value → World → Prop) (s : Nat → Value) (w : World) (h : s42_p2 K B1 (s 0) (s 23) w) : Tr (s42_p2_den K (fun s w => B1 [s 0, s 23] w) s w) :=
  tr_simple (P := Try.prog) (codes := [(cd (Try.f42.body.getD .skip) [1, 1, 1, 1, 0, 1, 0, 0, 1, 1, 1])]) (N := (fun s w => B1 [s 0, s 23] w)) (N' := (fun s w => B1 [s 0, s 23] w)) (X := (fun i => (bif Nat.beq i 0 then (fun s w => s42_p1 K w) else (fun _ _ => False)))) (X' := (fun i => (bif Nat.beq i 0 then (s42_p1_den K) else (fun _ _ => False)))) (R := s42_R K) (s := s) (w := w) (p := s42_p2 K B1 (s 0) (s 23) w) (q := s42_p2_den K (fun s w => B1 [s 0, s 23] w) s w) tr_id (fun i => (tr_bif (fun s w h => s42_p1_ok K s w @h) tr_id)) (by kernel_rfl) (by kernel_rfl) @h
def s42_p3 (K : Value → World → Prop) (B1 : List Value → World → Prop) (t0 t4 t23 : Value) (w : World) : Prop :=
  nck t0 (fun t46 w =>
  fd 12 t46 (fun t47 w =>
  ixa 12 1 t47 t4 (fun t48 w =>
  st1 t48 (.slice none 0 0) (fun w =>
  s42_p2 K B1 t0 t23 w) w) w) w) w
def s42_p3_den (K : Value → World → Prop) (M1 : (Nat → Value) → World → Prop) : (Nat → Value) → World → Prop := denL Try.prog [(cd (Try.f42.body.getD .skip) [1, 1, 1, 1, 0, 1, 0, 0, 1, 1, 0, 0, 1, 1, 0, 1])] (s42_p2_den K M1) (fun i => (bif Nat.beq i 1 then (s42_p2_den K M1) else (bif Nat.beq i 0 then (s42_p1_den K) else (fun _ _ => False)))) (s42_R K)
theorem s42_p3_ok (K : Value → World → Prop) (B1 : List Value → World → Prop) (s : Nat → Value) (w : World) (h : s42_p3 K B1 (s 0) (s 4) (s 23) w) : Tr (s42_p3_den K (fun s w => B1 [s 0, s 23] w) s w) :=
  tr_simple (P := Try.prog) (codes := [(cd (Try.f42.body.getD .skip) [1, 1, 1, 1, 0, 1, 0, 0, 1, 1, 0, 0, 1, 1, 0, 1])]) (N := (fun s w => s42_p2 K B1 (s 0) (s 23) w)) (N' := (s42_p2_den K (fun s w => B1 [s 0, s 23] w))) (X := (fun i => (bif Nat.beq i 1 then (fun s w => s42_p2 K B1 (s 0) (s 23) w) else (bif Nat.beq i 0 then (fun s w => s42_p1 K w) else (fun _ _ => False))))) (X' := (fun i => (bif Nat.beq i 1 then (s42_p2_den K (fun s w => B1 [s 0, s 23] w)) else (bif Nat.beq i 0 then (s42_p1_den K) else (fun _ _ => False))))) (R := s42_R K) (s := s) (w := w) (p := s42_p3 K B1 (s 0) (s 4) (s 23) w) (q := s42_p3_den K (fun s w => B1 [s 0, s 23] w) s w) (fun s w h => s42_p2_ok K B1 s w @h) (fun i => (tr_bif (fun s w h => s42_p2_ok K B1 s w @h) (tr_bif (fun s w h => s42_p1_ok K s w @h) tr_id))) (by kernel_rfl) (by kernel_rfl) @h
def s42_p4_d (K : Value → World → Prop) (B1 : List Value → World → Prop) (t0 t4 t23 : Value) (w0 w : World) : Prop :=
  nck t0 (fun t37 _ =>
  fd 12 t37 (fun t38 _ =>
  ixa 12 1 t38 t4 (fun t39 _ =>
  ld1 t39 (fun t40 _ =>
  nck t0 (fun t41 _ =>
  fd 0 t41 (fun t42 _ =>
  ixa 12 1 t42 t4 (fun t43 _ =>
  st1 t43 t40 (fun w =>
  s42_p3 K B1 t0 t4 t23 w) w) w0) w0) w0) w0) w0) w0) w0
def s42_p4 (K : Value → World → Prop) (B1 : List Value → World → Prop) (t0 t4 t23 : Value) (w : World) : Prop := s42_p4_d K B1 t0 t4 t23 (drw w) (drw w)
def s42_p4_den (K : Value → World → Prop) (M1 : (Nat → Value) → World → Prop) : (Nat → Value) → World → Prop := denL Try.prog [(cd (Try.f42.body.getD .skip) [1, 1, 1, 1, 0, 1, 0, 0, 1, 1, 0, 0, 1, 1, 0, 0])] (s42_p3_den K M1) (fun i => (bif Nat.beq i 1 then (s42_p2_den K M1) else (bif Nat.beq i 0 then (s42_p1_den K) else (fun _ _ => False)))) (s42_R K)
theorem s42_p4_ok (K : Value → World → Prop) (B1 : List Value → World → Prop) (s : Nat → Value) (w : World) (h : s42_p4 K B1 (s 0) (s 4) (s 23) w) : Tr (s42_p4_den K (fun s w => B1 [s 0, s 23] w) s w) :=
  tr_draw (P := Try.prog) (ops := (ro (cd (Try.f42.body.getD .skip) [1, 1, 1, 1, 0, 1, 0, 0, 1, 1, 0, 0, 1, 1, 0, 0]))) (ms := [0, 0, 0, 0, 4, 20, 60, 124, 1, 257, 1023, 2047]) (cs := [0, 1, 2, 3, 4, 5, 6, 7, 8, 9, 10]) (N := (fun s w => s42_p3 K B1 (s 0) (s 4) (s 23) w)) (N' := (s42_p3_den K (fun s w => B1 [s 0, s 23] w))) (s := s) (w := w) (p := s42_p4 K B1 (s 0) (s 4) (s 23) w) (q := s42_p4_den K (fun s w => B1 [s 0, s 23] w) s w) (by kernel_rfl) (by kernel_rfl) (fun s w h => s42_p3_ok K B1 s w @h) (by kernel_rfl) (by kernel_rfl) @h
def s42_p5 (K : Value → World → Prop) (B1 : List Value → World → Prop) (t0 t4 t23 t32 : Value) (w : World) : Prop :=
  ifb t32
  (s42_p4 K B1 t0 t4 t23 w)
  (s42_p2 K B1 t0 t23 w)
def s42_p5_den (K : Value → World → Prop) (M1 : (Nat → Value) → World → Prop) : (Nat → Value) → World → Prop := fun s w => ifb (ev s (.tmp 32)) ((s42_p4_den K M1) s w) ((s42_p2_den K M1) s w)
theorem s42_p5_ok (K : Value → World → Prop) (B1 : List Value → World → Prop) (s : Nat → Value) (w : World) (h : s42_p5 K B1 (s 0) (s 4) (s 23) (s 32) w) : Tr (s42_p5_den K (fun s w => B1 [s 0, s 23] w) s w) :=
  tr_cond (v := ev s (.tmp 32)) (a := (fun s w => s42_p4 K B1 (s 0) (s 4) (s 23) w) s w) (a' := (s42_p4_den K (fun s w => B1 [s 0, s 23] w)) s w) (b := (fun s w => s42_p2 K B1 (s 0) (s 23) w) s w) (b' := (s42_p2_den K (fun s w => B1 [s 0, s 23] w)) s w) (p := s42_p5 K B1 (s 0) (s 4) (s 23) (s 32) w) (q := s42_p5_den K (fun s w => B1 [s 0, s 23] w) s w) ((fun s w h => s42_p4_ok K B1 s w @h) s w) ((fun s w h => s42_p2_ok K B1 s w @h) s w) (by kernel_rfl) (by kernel_rfl) @h
def s42_p6 (K : Value → World → Prop) (B1 : List Value → World → Prop) (t0 t23 : Value) (w : World) : Prop :=
  nck t0 (fun t28 w =>
  fd 12 t28 (fun t29 w =>
  ixa 12 1 t29 t23 (fun t30 w =>
  ld1 t30 (fun t31 w =>
  boZ .neq t31 (.slice none 0 0) (fun t32 w =>
  s42_p5 K B1 t0 t23 t23 t32 w) w) w) w) w) w
def s42_p6_den (K : Value → World → Prop) (M1 : (Nat → Value) → World → Prop) : (Nat → Value) → World → Prop := denL Try.prog [(cd (Try.f42.body.getD .skip) [1, 1, 1, 1, 0, 1, 0, 0, 1, 1, 0, 0, 0]), (cd (Try.f42.body.getD .skip) [1, 1, 1, 1, 0, 1, 0, 0, 1, 1, 0, 0, 1, 0])] (s42_p5_den K M1) (fun i => (bif Nat.beq i 1 then (s42_p2_den K M1) else (bif Nat.beq i 0 then (s42_p1_den K) else (fun _ _ => False)))) (s42_R K)
theorem s42_p6_ok (K : Value → World → Prop) (B1 : List Value → World → Prop) (s : Nat → Value) (w : World) (h : s42_p6 K B1 (s 0) (s 23) w) : Tr (s42_p6_den K (fun s w => B1 [s 0, s 23] w) s w) :=
  tr_simple (P := Try.prog) (codes := [(cd (Try.f42.body.getD .skip) [1, 1, 1, 1, 0, 1, 0, 0, 1, 1, 0, 0, 0]), (cd (Try.f42.body.getD .skip) [1, 1, 1, 1, 0, 1, 0, 0, 1, 1, 0, 0, 1, 0])]) (N := (fun s w => s42_p5 K B1 (s 0) (s 4) (s 23) (s 32) w)) (N' := (s42_p5_den K (fun s w => B1 [s 0, s 23] w))) (X := (fun i => (bif Nat.beq i 1 then (fun s w => s42_p2 K B1 (s 0) (s 23) w) else (bif Nat.beq i 0 then (fun s w => s42_p1 K w) else (fun _ _ => False))))) (X' := (fun i => (bif Nat.beq i 1 then (s42_p2_den K (fun s w => B1 [s 0, s 23] w)) else (bif Nat.beq i 0 then (s42_p1_den K) else (fun _ _ => False))))) (R := s42_R K) (s := s) (w := w) (p := s42_p6 K B1 (s 0) (s 23) w) (q := s42_p6_den K (fun s w => B1 [s 0, s 23] w) s w) (fun s w h => s42_p5_ok K B1 s w @h) (fun i => (tr_bif (fun s w h => s42_p2_ok K B1 s w @h) (tr_bif (fun s w h => s42_p1_ok K s w @h) tr_id))) (by kernel_rfl) (by kernel_rfl) @h
def s42_p7 (K : Value → World → Prop) (B1 : List Value → World → Prop) (t0 t23 : Value) (w : World) : Prop :=
  boI .lss t23 (.int .i64 12) (fun t24 w =>
  ifb t24
  (s42_p6 K B1 t0 t23 w)
  (s42_p1 K w)) w
def s42_p7_den (K : Value → World → Prop) (M1 : (Nat → Value) → World → Prop) : (Nat → Value) → World → Prop := denL Try.prog [(cd (Try.f42.body.getD .skip) [1, 1, 1, 1, 0, 1, 0, 0, 0]), (cd (Try.f42.body.getD .skip) [1, 1, 1, 1, 0, 1, 0, 0, 1, 0])] (s42_p6_den K M1) (fun i => (bif Nat.beq i 0 then (s42_p1_den K) else (fun _ _ => False))) (s42_R K)
theorem s42_p7_ok (K : Value → World → Prop) (B1 : List Value → World → Prop) (s : Nat → Value) (w : World) (h : s42_p7 K B1 (s 0) (s 23) w) : Tr (s42_p7_den K (fun s w => B1 [s 0, s 23] w) s w) :=
  tr_simple (P := Try.prog) (codes := [(cd (Try.f42.body.getD .skip) [1, 1, 1, 1, 0, 1, 0, 0, 0]), (cd (Try.f42.body.getD .skip) [1, 1, 1, 1, 0, 1, 0, 0, 1, 0])]) (N := (fun s w => s42_p6 K B1 (s 0) (s 23) w)) (N' := (s42_p6_den K (fun s w => B1 [s 0, s 23] w))) (X := (fun i => (bif Nat.beq i 0 then (fun s w => s42_p1 K w) else (fun _ _ => False)))) (X' := (fun i => (bif Nat.beq i 0 then (s42_p1_den K) else (fun _ _ => False)))) (R := s42_R K) (s := s) (w := w) (p := s42_p7 K B1 (s 0) (s 23) w) (q := s42_p7_den K (fun s w => B1 [s 0, s 23] w) s w) (fun s w h => s42_p6_ok K B1 s w @h) (fun i => (tr_bif (fun s w h => s42_p1_ok K s w @h) tr_id)) (by kernel_rfl) (by kernel_rfl) @h
def s42_p8_F (K : Value → World → Prop) (B1 : List Value → World → Prop) (l : List Value) (w : World) : Prop :=
  match l with
  | [t0, t23] => s42_p7 K B1 t0 t23 w
  | _ => False
theorem s42_p8_Fe {K : Value → World → Prop} {B1 : List Value → World → Prop} {t0 t23 : Value} {w : World} : s42_p8_F K B1 [t0, t23] w = s42_p7 K B1 t0 t23 w := by kernel_rfl
def s42_p8 (K : Value → World → Prop) (t0 t23 : Value) (w : World) : Prop :=
  LoopL (s42_p8_F K) [t0, t23] w
def s42_p8_den (K : Value → World → Prop) : (Nat → Value) → World → Prop := fun s w => LoopP (fun M1 s w => s42_p7_den K M1 s w) s w
theorem s42_p8_ok (K : Value → World → Prop) (s : Nat → Value) (w : World) (h : s42_p8 K (s 0) (s 23) w) : Tr (s42_p8_den K s w) :=
  tr_loop (G := fun N' s w => s42_p7_den K N' s w) (F := s42_p8_F K) (sel := fun s => [s 0, s 23]) (s := s) (w := w) (p := s42_p8 K (s 0) (s 23) w) (q := s42_p8_den K s w) (fun B s w h => s42_p7_ok K B s w @h) (by kernel_rfl) (by kernel_rfl) @h
def s42_p9 (K : Value → World → Prop) (t0 : Value) (w : World) : Prop :=
  nck t0 (fun t6 w =>
  fd 24 t6 (fun t7 w =>
  ld1 t7 (fun t8 w =>
  ifb t8
  (K (.int .i64 4) w)
  (nck t0 (fun t10 w =>
  fd 29 t10 (fun t11 w =>
  fd 2 t11 (fun t12 w =>
  ld1 t12 (fun t13 w =>
  boI .add t13 (.int .i64 1) (fun t14 w =>
  nck t0 (fun t15 w =>
  fd 29 t15 (fun t16 w =>
  fd 2 t16 (fun t17 w =>
  st1 t17 t14 (fun w =>
  cl Try.prog 64 #[t0] (fun t19 w =>
  boI .neq t19 (.int .i64 0) (fun t21 w =>
  ifb t21
  (K t19 w)
  (s42_p8 K t0 (.int .i64 0) w)) w) w) w) w) w) w) w) w) w) w) w)) w) w) w
def s42_p9_den (K : Value → World → Prop) : (Nat → Value) → World → Prop := denL Try.prog [(cd (Try.f42.body.getD .skip) [0]), (cd (Try.f42.body.getD .skip) [1, 0, 0]), (cd (Try.f42.body.getD .skip) [1, 0, 1]), (cd (Try.f42.body.getD .skip) [1, 1, 0]), (cd (Try.f42.body.getD .skip) [1, 1, 1, 0, 0]), (cd (Try.f42.body.getD .skip) [1, 1, 1, 0, 1, 0]), (cd (Try.f42.body.getD .skip) [1, 1, 1, 0, 1, 1]), (cd (Try.f42.body.getD .skip) [1, 1, 1, 1, 0, 0])] (s42_p8_den K) (fun i => (fun _ _ => False)) (s42_R K)
theorem s42_p9_ok (K : Value → World → Prop) (s : Nat → Value) (w : World) (h : s42_p9 K (s 0) w) : Tr (s42_p9_den K s w) :=
  tr_simple (P := Try.prog) (codes := [(cd (Try.f42.body.getD .skip) [0]), (cd (Try.f42.body.getD .skip) [1, 0, 0]), (cd (Try.f42.body.getD .skip) [1, 0, 1]), (cd (Try.f42.body.getD .skip) [1, 1, 0]), (cd (Try.f42.body.getD .skip) [1, 1, 1, 0, 0]), (cd (Try.f42.body.getD .skip) [1, 1, 1, 0, 1, 0]), (cd (Try.f42.body.getD .skip) [1, 1, 1, 0, 1, 1]), (cd (Try.f42.body.getD .skip) [1, 1, 1, 1, 0, 0])]) (N := (fun s w => s42_p8 K (s 0) (s 23) w)) (N' := (s42_p8_den K)) (X := (fun i => (fun _ _ => False))) (X' := (fun i => (fun _ _ => False))) (R := s42_R K) (s := s) (w := w) (p := s42_p9 K (s 0) w) (q := s42_p9_den K s w) (fun s w h => s42_p8_ok K s w @h) (fun i => tr_id) (by kernel_rfl) (by kernel_rfl) @h
/-- the call, from the text -/
theorem c42 (t0 : Value) {K : Value → World → Prop} {w : World} (h : s42_p9 K t0 w) : cl Try.prog 42 #[t0] K w :=
  calls_of_tr (c := (Try.f42.body.getD .skip)) (fn := Try.f42) (q := s42_p9_den K (st0 #[t0]) w) Try.func42 (by kernel_rfl) (by kernel_rfl) (Nat.le_of_ble_eq_true (by kernel_rfl)) (by kernel_rfl) (by kernel_rfl) (s42_p9_ok K (st0 #[t0]) w @h)

/-! ### function 43 : (*e2e.diskm.Disk).Crash -/
def s43_R (K : Value → World → Prop) (s : Nat → Value) (w : World) : Prop := retv Try.prog s Try.f43.results.toList (fun vs => K (pack vs) w) w
def s43_p1 (K : Value → World → Prop) (t0 : Value) (w : World) : Prop :=
  nck t0 (fun t66 w =>
  fd 24 t66 (fun t67 w =>
  st1 t67 (.bool true) (fun w =>
  nck t0 (fun t69 w =>
  fd 25 t69 (fun t70 w =>
  st1 t70 (.int .i64 0) (fun w =>
  bdq [(.slice none 0 0), (.int .i64 0), (.int .i64 0)] [] (fun t72 w =>
  nck t0 (fun t73 w =>
  fd 26 t73 (fun t74 w =>
  stn 3 t74 t72 (fun w =>
  nck t0 (fun t76 w =>
  fd 29 t76 (fun t77 w =>
  fd 3 t77 (fun t78 w =>
  ld1 t78 (fun t79 w =>
  boI .add t79 (.int .i64 1) (fun t80 w =>
  nck t0 (fun t81 w =>
  fd 29 t81 (fun t82 w =>
  fd 3 t82 (fun t83 w =>
  st1 t83 t80 (fun w =>
  K (.int .i64 0) w) w) w) w) w) w) w) w) w) w) w) w) w) w) w) w) w) w) w) w
def s43_p1_den (K : Value → World → Prop) : (Nat → Value) → World → Prop := denL Try.prog [(cd (Try.f43.body.getD .skip) [1, 1, 1, 0]), (cd (Try.f43.body.getD .skip) [1, 1, 1, 1, 0]), (cd (Try.f43.body.getD .skip) [1, 1, 1, 1, 1, 0]), (cd (Try.f43.body.getD .skip) [1, 1, 1, 1, 1, 1, 0]), (cd (Try.f43.body.getD .skip) [1, 1, 1, 1, 1, 1, 1, 0]), (cd (Try.f43.body.getD .skip) [1, 1, 1, 1, 1, 1, 1, 1])] (fun _ _ => False) (fun i => (fun _ _ => False)) (s43_R K)
theorem s43_p1_ok (K : Value → World → Prop) (s : Nat → Value) (w : World) (h : s43_p1 K (s 0) w) : Tr (s43_p1_den K s w) :=
  tr_simple (P := Try.prog) (codes := [(cd (Try.f43.body.getD .skip) [1, 1, 1, 0]), (cd (Try.f43.body.getD .skip) [1, 1, 1, 1, 0]), (cd (Try.f43.body.getD .skip) [1, 1, 1, 1, 1, 0]), (cd (Try.f43.body.getD .skip) [1, 1, 1, 1, 1, 1, 0]), (cd (Try.f43.body.getD .skip) [1, 1, 1, 1, 1, 1, 1, 0]), (cd (Try.f43.body.getD .skip) [1, 1, 1, 1, 1, 1, 1, 1])]) (N := (fun _ _ => False)) (N' := (fun _ _ => False)) (X := (fun i => (fun _ _ => False))) (X' := (fun i => (fun _ _ => False))) (R := s43_R K) (s := s) (w := w) (p := s43_p1 K (s 0) w) (q := s43_p1_den K s w) tr_id (fun i => tr_id) (by kernel_rfl) (by kernel_rfl) @h
def s43_p2 (K : Value → World → Prop) (B1 : List Value → World → Prop) (t0 t3 t10 : Value) (w : World) : Prop :=
  boI .add t10 (.int .i64 1) (fun t64 w =>
  B1 [t0, t3, t64] w) w
def s43_p2_den (K : Value → World → Prop) (M1 : (Nat → Value) → World → Prop) : (Nat → Value) → World → Prop := denL Try.prog [(cd (Try.f43.body.getD .skip) [1, 1, 0, 1, 0, 0, 1, 1, 1])] M1 (fun i => (bif Nat.beq i 0 then (s43_p1_den K) else (fun _ _ => False))) (s43_R K)
theorem s43_p2_ok (K : Value → World → Prop) (B1 : List Value → World → Prop) (s : Nat → Value) (w : World) (h : s43_p2 K B1 (s 0) (s 3) (s 10) w) : Tr (s43_p2_den K (fun s w => B1 [s 0, s 3, s 10] w) s w) :=
  tr_simple (P := Try.prog) (codes := [(cd (Try.f43.body.getD .skip) [1, 1, 0, 1, 0, 0, 1, 1, 1])]) (N := (fun s w => B1 [s 0, s 3, s 10] w)) (N' := (fun s w => B1 [s 0, s 3, s 10] w)) (X := (fun i => (bif Nat.beq i 0 then (fun s w => s43_p1 K (s 0) w) else (fun _ _ => False)))) (X' := (fun i => (bif Nat.beq i 0 then (s43_p1_den K) else (fun _ _ => False)))) (R := s43_R K) (s := s) (w := w) (p := s43_p2 K B1 (s 0) (s 3) (s 10) w) (q := s43_p2_den K (fun s w => B1 [s 0, s 3, s 10] w) s w) tr_id (fun i => (tr_bif (fun s w h => s43_p1_ok K s w @h) tr_id)) (by kernel_rfl) (by kernel_rfl) @h
def s43_p3 (K : Value → World → Prop) (B1 : List Value → World → Prop) (t0 t3 t5 t10 : Value) (w : World) : Prop :=
  nck t0 (fun t61 w =>
  fd 12 t61 (fun t62 w =>
  ixa 12 1 t62 t5 (fun t63 w =>
  st1 t63 (.slice none 0 0) (fun w =>
  s43_p2 K B1 t0 t3 t10 w) w) w) w) w
def s43_p3_den (K : Value → World → Prop) (M1 : (Nat → Value) → World → Prop) : (Nat → Value) → World → Prop := denL Try.prog [(cd (Try.f43.body.getD .skip) [1, 1, 0, 1, 0, 0, 1, 1, 0, 0, 1, 1, 1])] (s43_p2_den K M1) (fun i => (bif Nat.beq i 1 then (s43_p2_den K M1) else (bif Nat.beq i 0 then (s43_p1_den K) else (fun _ _ => False)))) (s43_R K)
theorem s43_p3_ok (K : Value → World → Prop) (B1 : List Value → World → Prop) (s : Nat → Value) (w : World) (h : s43_p3 K B1 (s 0) (s 3) (s 5) (s 10) w) : Tr (s43_p3_den K (fun s w => B1 [s 0, s 3, s 10] w) s w) :=
  tr_simple (P := Try.prog) (codes := [(cd (Try.f43.body.getD .skip) [1, 1, 0, 1, 0, 0, 1, 1, 0, 0, 1, 1, 1])]) (N := (fun s w => s43_p2 K B1 (s 0) (s 3) (s 10) w)) (N' := (s43_p2_den K (fun s w => B1 [s 0, s 3, s 10] w))) (X := (fun i => (bif Nat.beq i 1 then (fun s w => s43_p2 K B1 (s 0) (s 3) (s 10) w) else (bif Nat.beq i 0 then (fun s w => s43_p1 K (s 0) w) else (fun _ _ => False))))) (X' := (fun i => (bif Nat.beq i 1 then (s43_p2_den K (fun s w => B1 [s 0, s 3, s 10] w)) else (bif Nat.beq i 0 then (s43_p1_den K) else (fun _ _ => False))))) (R := s43_R K) (s := s) (w := w) (p := s43_p3 K B1 (s 0) (s 3) (s 5) (s 10) w) (q := s43_p3_den K (fun s w => B1 [s 0, s 3, s 10] w) s w) (fun s w h => s43_p2_ok K B1 s w @h) (fun i => (tr_bif (fun s w h => s43_p2_ok K B1 s w @h) (tr_bif (fun s w h => s43_p1_ok K s w @h) tr_id))) (by kernel_rfl) (by kernel_rfl) @h
def s43_p4_d (K : Value → World → Prop) (B1 : List Value → World → Prop) (t0 t3 t5 t10 : Value) (w0 w : World) : Prop :=
  nck t0 (fun t28 _ =>
  fd 12 t28 (fun t29 _ =>
  ixa 12 1 t29 t5 (fun t30 _ =>
  ld1 t30 (fun t31 _ =>
  nck t0 (fun t34 _ =>
  fd 0 t34 (fun t35 _ =>
  ixa 12 1 t35 t5 (fun t36 _ =>
  ld1 t36 (fun t37 _ =>
  fd 2 t3 (fun t38 _ =>
  ld1 t38 (fun t39 _ =>
  nck t0 (fun t41 _ =>
  fd 0 t41 (fun t42 _ =>
  ixa 12 1 t42 t5 (fun t43 _ =>
  cl Try.prog 65 #[t31, t37, t39] (fun t40 w =>
  st1 t43 t40 (fun w =>
  s43_p3 K B1 t0 t3 t5 t10 w) w) w) w0) w0) w0) w0) w0) w0) w0) w0) w0) w0) w0) w0) w0
def s43_p4 (K : Value → World → Prop) (B1 : List Value → World → Prop) (t0 t3 t5 t10 : Value) (w : World) : Prop := s43_p4_d K B1 t0 t3 t5 t10 (drw w) (drw w)
def s43_p4_den (K : Value → World → Prop) (M1 : (Nat → Value) → World → Prop) : (Nat → Value) → World → Prop := denL Try.prog [(cd (Try.f43.body.getD .skip) [1, 1, 0, 1, 0, 0, 1, 1, 0, 0, 1, 1, 0, 1, 0])] (s43_p3_den K M1) (fun i => (bif Nat.beq i 1 then (s43_p2_den K M1) else (bif Nat.beq i 0 then (s43_p1_den K) else (fun _ _ => False)))) (s43_R K)
theorem s43_p4_ok (K : Value → World → Prop) (B1 : List Value → World → Prop) (s : Nat → Value) (w : World) (h : s43_p4 K B1 (s 0) (s 3) (s 5) (s 10) w) : Tr (s43_p4_den K (fun s w => B1 [s 0, s 3, s 10] w) s w) :=
  tr_draw (P := Try.prog) (ops := (ro (cd (Try.f43.body.getD .skip) [1, 1, 0, 1, 0, 0, 1, 1, 0, 0, 1, 1, 0, 1, 0]))) (ms := [0, 0, 0, 0, 4, 20, 60, 124, 0, 0, 256, 1280, 3840, 7936, 0, 16384, 65532, 1, 131073, 524287, 1048575]) (cs := [0, 1, 2, 3, 4, 5, 6, 7, 8, 9, 10, 11, 12, 13, 14, 15, 17, 18, 19]) (N := (fun s w => s43_p3 K B1 (s 0) (s 3) (s 5) (s 10) w)) (N' := (s43_p3_den K (fun s w => B1 [s 0, s 3, s 10] w))) (s := s) (w := w) (p := s43_p4 K B1 (s 0) (s 3) (s 5) (s 10) w) (q := s43_p4_den K (fun s w => B1 [s 0, s 3, s 10] w) s w) (by kernel_rfl) (by kernel_rfl) (fun s w h => s43_p3_ok K B1 s w @h) (by kernel_rfl) (by kernel_rfl) @h
def s43_p5_d (K : Value → World → Prop) (B1 : List Value → World → Prop) (t0 t3 t5 t10 : Value) (w0 w : World) : Prop :=
  nck t0 (fun t52 _ =>
  fd 12 t52 (fun t53 _ =>
  ixa 12 1 t53 t5 (fun t54 _ =>
  ld1 t54 (fun t55 _ =>
  nck t0 (fun t56 _ =>
  fd 0 t56 (fun t57 _ =>
  ixa 12 1 t57 t5 (fun t58 _ =>
  st1 t58 t55 (fun w =>
  s43_p3 K B1 t0 t3 t5 t10 w) w) w0) w0) w0) w0) w0) w0) w0
def s43_p5 (K : Value → World → Prop) (B1 : List Value → World → Prop) (t0 t3 t5 t10 : Value) (w : World) : Prop := s43_p5_d K B1 t0 t3 t5 t10 (drw w) (drw w)
def s43_p5_den (K : Value → World → Prop) (M1 : (Nat → Value) → World → Prop) : (Nat → Value) → World → Prop := denL Try.prog [(cd (Try.f43.body.getD .skip) [1, 1, 0, 1, 0, 0, 1, 1, 0, 0, 1, 1, 0, 1, 1, 1, 0])] (s43_p3_den K M1) (fun i => (bif Nat.beq i 1 then (s43_p2_den K M1) else (bif Nat.beq i 0 then (s43_p1_den K) else (fun _ _ => False)))) (s43_R K)
theorem s43_p5_ok (K : Value → World → Prop) (B1 : List Value → World → Prop) (s : Nat → Value) (w : World) (h : s43_p5 K B1 (s 0) (s 3) (s 5) (s 10) w) : Tr (s43_p5_den K (fun s w => B1 [s 0, s 3, s 10] w) s w) :=
  tr_draw (P := Try.prog) (ops := (ro (cd (Try.f43.body.getD .skip) [1, 1, 0, 1, 0, 0, 1, 1, 0, 0, 1, 1, 0, 1, 1, 1, 0]))) (ms := [0, 0, 0, 0, 4, 20, 60, 124, 1, 257, 1023, 2047]) (cs := [0, 1, 2, 3, 4, 5, 6, 7, 8, 9, 10]) (N := (fun s w => s43_p3 K B1 (s 0) (s 3) (s 5) (s 10) w)) (N' := (s43_p3_den K (fun s w => B1 [s 0, s 3, s 10] w))) (s := s) (w := w) (p := s43_p5 K B1 (s 0) (s 3) (s 5) (s 10) w) (q := s43_p5_den K (fun s w => B1 [s 0, s 3, s 10] w) s w) (by kernel_rfl) (by kernel_rfl) (fun s w h => s43_p3_ok K B1 s w @h) (by kernel_rfl) (by kernel_rfl) @h
def s43_p6 (K : Value → World → Prop) (B1 : List Value → World → Prop) (t0 t3 t5 t10 t47 : Value) (w : World) : Prop :=
  ifb t47
  (s43_p5 K B1 t0 t3 t5 t10 w)
  (s43_p3 K B1 t0 t3 t5 t10 w)
def s43_p6_den (K : Value → World → Prop) (M1 : (Nat → Value) → World → Prop) : (Nat → Value) → World → Prop := fun s w => ifb (ev s (.tmp 47)) ((s43_p5_den K M1) s w) ((s43_p3_den K M1) s w)
theorem s43_p6_ok (K : Value → World → Prop) (B1 : List Value → World → Prop) (s : Nat → Value) (w : World) (h : s43_p6 K B1 (s 0) (s 3) (s 5) (s 10) (s 47) w) : Tr (s43_p6_den K (fun s w => B1 [s 0, s 3, s 10] w) s w) :=
  tr_cond (v := ev s (.tmp 47)) (a := (fun s w => s43_p5 K B1 (s 0) (s 3) (s 5) (s 10) w) s w) (a' := (s43_p5_den K (fun s w => B1 [s 0, s 3, s 10] w)) s w) (b := (fun s w => s43_p3 K B1 (s 0) (s 3) (s 5) (s 10) w) s w) (b' := (s43_p3_den K (fun s w => B1 [s 0, s 3, s 10] w)) s w) (p := s43_p6 K B1 (s 0) (s 3) (s 5) (s 10) (s 47) w) (q := s43_p6_den K (fun s w => B1 [s 0, s 3, s 10] w) s w) ((fun s w h => s43_p5_ok K B1 s w @h) s w) ((fun s w h => s43_p3_ok K B1 s w @h) s w) (by kernel_rfl) (by kernel_rfl) @h
def s43_p7 (K : Value → World → Prop) (B1 : List Value → World → Prop) (t0 t3 t5 t10 : Value) (w : World) : Prop :=
  fd 0 t3 (fun t44 w =>
  ld1 t44 (fun t45 w =>
  cl Try.prog 24 #[t45, t5] (fun t47 w =>
  s43_p6 K B1 t0 t3 t5 t10 t47 w) w) w) w
def s43_p7_den (K : Value → World → Prop) (M1 : (Nat → Value) → World → Prop) : (Nat → Value) → World → Prop := denL Try.prog [(cd (Try.f43.body.getD .skip) [1, 1, 0, 1, 0, 0, 1, 1, 0, 0, 1, 1, 0, 1, 1, 0])] (s43_p6_den K M1) (fun i => (bif Nat.beq i 1 then (s43_p2_den K M1) else (bif Nat.beq i 0 then (s43_p1_den K) else (fun _ _ => False)))) (s43_R K)
theorem s43_p7_ok (K : Value → World → Prop) (B1 : List Value → World → Prop) (s : Nat → Value) (w : World) (h : s43_p7 K B1 (s 0) (s 3) (s 5) (s 10) w) : Tr (s43_p7_den K (fun s w => B1 [s 0, s 3, s 10] w) s w) :=
  tr_simple (P := Try.prog) (codes := [(cd (Try.f43.body.getD .skip) [1, 1, 0, 1, 0, 0, 1, 1, 0, 0, 1, 1, 0, 1, 1, 0])]) (N := (fun s w => s43_p6 K B1 (s 0) (s 3) (s 5) (s 10) (s 47) w)) (N' := (s43_p6_den K (fun s w => B1 [s 0, s 3, s 10] w))) (X := (fun i => (bif Nat.beq i 1 then (fun s w => s43_p2 K B1 (s 0) (s 3) (s 10) w) else (bif Nat.beq i 0 then (fun s w => s43_p1 K (s 0) w) else (fun _ _ => False))))) (X' := (fun i => (bif Nat.beq i 1 then (s43_p2_den K (fun s w => B1 [s 0, s 3, s 10] w)) else (bif Nat.beq i 0 then (s43_p1_den K) else (fun _ _ => False))))) (R := s43_R K) (s := s) (w := w) (p := s43_p7 K B1 (s 0) (s 3) (s 5) (s 10) w) (q := s43_p7_den K (fun s w => B1 [s 0, s 3, s 10] w) s w) (fun s w h => s43_p6_ok K B1 s w @h) (fun i => (tr_bif (fun s w h => s43_p2_ok K B1 s w @h) (tr_bif (fun s w h => s43_p1_ok K s w @h) tr_id))) (by kernel_rfl) (by kernel_rfl) @h
def s43_p8 (K : Value → World → Prop) (B1 : List Value → World → Prop) (t0 t3 t5 t10 t23 : Value) (w : World) : Prop :=
  ifb t23
  (s43_p4 K B1 t0 t3 t5 t10 w)
  (s43_p7 K B1 t0 t3 t5 t10 w)
def s43_p8_den (K : Value → World → Prop) (M1 : (Nat → Value) → World → Prop) : (Nat → Value) → World → Prop := fun s w => ifb (ev s (.tmp 23)) ((s43_p4_den K M1) s w) ((s43_p7_den K M1) s w)
theorem s43_p8_ok (K : Value → World → Prop) (B1 : List Value → World → Prop) (s : Nat → Value) (w : World) (h : s43_p8 K B1 (s 0) (s 3) (s 5) (s 10) (s 23) w) : Tr (s43_p8_den K (fun s w => B1 [s 0, s 3, s 10] w) s w) :=
  tr_cond (v := ev s (.tmp 23)) (a := (fun s w => s43_p4 K B1 (s 0) (s 3) (s 5) (s 10) w) s w) (a' := (s43_p4_den K (fun s w => B1 [s 0, s 3, s 10] w)) s w) (b := (fun s w => s43_p7 K B1 (s 0) (s 3) (s 5) (s 10) w) s w) (b' := (s43_p7_den K (fun s w => B1 [s 0, s 3, s 10] w)) s w) (p := s43_p8 K B1 (s 0) (s 3) (s 5) (s 10) (s 23) w) (q := s43_p8_den K (fun s w => B1 [s 0, s 3, s 10] w) s w) ((fun s w h => s43_p4_ok K B1 s w @h) s w) ((fun s w h => s43_p7_ok K B1 s w @h) s w) (by kernel_rfl) (by kernel_rfl) @h
def s43_p9 (K : Value → World → Prop) (B1 : List Value → World → Prop) (t0 t3 t10 : Value) (w : World) : Prop :=
  nck t0 (fun t15 w =>
  fd 12 t15 (fun t16 w =>
  ixa 12 1 t16 t10 (fun t17 w =>
  ld1 t17 (fun t18 w =>
  boZ .eql t18 (.slice none 0 0) (fun t19 w =>
  ifb t19
  (s43_p2 K B1 t0 t3 t10 w)
  (fd 1 t3 (fun t21 w =>
  ld1 t21 (fun t22 w =>
  boI .eql t10 t22 (fun t23 w =>
  s43_p8 K B1 t0 t3 t10 t10 t23 w) w) w) w)) w) w) w) w) w
def s43_p9_den (K : Value → World → Prop) (M1 : (Nat → Value) → World → Prop) : (Nat → Value) → World → Prop := denL Try.prog [(cd (Try.f43.body.getD .skip) [1, 1, 0, 1, 0, 0, 1, 1, 0, 0, 0]), (cd (Try.f43.body.getD .skip) [1, 1, 0, 1, 0, 0, 1, 1, 0, 0, 1, 0, 0]), (cd (Try.f43.body.getD .skip) [1, 1, 0, 1, 0, 0, 1, 1, 0, 0, 1, 0, 1]), (cd (Try.f43.body.getD .skip) [1, 1, 0, 1, 0, 0, 1, 1, 0, 0, 1, 1, 0, 0])] (s43_p8_den K M1) (fun i => (bif Nat.beq i 1 then (s43_p2_den K M1) else (bif Nat.beq i 0 then (s43_p1_den K) else (fun _ _ => False)))) (s43_R K)
theorem s43_p9_ok (K : Value → World → Prop) (B1 : List Value → World → Prop) (s : Nat → Value) (w : World) (h : s43_p9 K B1 (s 0) (s 3) (s 10) w) : Tr (s43_p9_den K (fun s w => B1 [s 0, s 3, s 10] w) s w) :=
  tr_simple (P := Try.prog) (codes := [(cd (Try.f43.body.getD .skip) [1, 1, 0, 1, 0, 0, 1, 1, 0, 0, 0]), (cd (Try.f43.body.getD .skip) [1, 1, 0, 1, 0, 0, 1, 1, 0, 0, 1, 0, 0]), (cd (Try.f43.body.getD .skip) [1, 1, 0, 1, 0, 0, 1, 1, 0, 0, 1, 0, 1]), (cd (Try.f43.body.getD .skip) [1, 1, 0, 1, 0, 0, 1, 1, 0, 0, 1, 1, 0, 0])]) (N := (fun s w => s43_p8 K B1 (s 0) (s 3) (s 5) (s 10) (s 23) w)) (N' := (s43_p8_den K (fun s w => B1 [s 0, s 3, s 10] w))) (X := (fun i => (bif Nat.beq i 1 then (fun s w => s43_p2 K B1 (s 0) (s 3) (s 10) w) else (bif Nat.beq i 0 then (fun s w => s43_p1 K (s 0) w) else (fun _ _ => False))))) (X' := (fun i => (bif Nat.beq i 1 then (s43_p2_den K (fun s w => B1 [s 0, s 3, s 10] w)) else (bif Nat.beq i 0 then (s43_p1_den K) else (fun _ _ => False))))) (R := s43_R K) (s := s) (w := w) (p := s43_p9 K B1 (s 0) (s 3) (s 10) w) (q := s43_p9_den K (fun s w => B1 [s 0, s 3, s 10] w) s w) (fun s w h => s43_p8_ok K B1 s w @h) (fun i => (tr_bif (fun s w h => s43_p2_ok K B1 s w @h) (tr_bif (fun s w h => s43_p1_ok K s w @h) tr_id))) (by kernel_rfl) (by kernel_rfl) @h
def s43_p10 (K : Value → World → Prop) (B1 : List Value → World → Prop) (t0 t3 t10 : Value) (w : World) : Prop :=
  boI .lss t10 (.int .i64 12) (fun t11 w =>
  ifb t11
  (s43_p9 K B1 t0 t3 t10 w)
  (s43_p1 K t0 w)) w
def s43_p10_den (K : Value → World → Prop) (M1 : (Nat → Value) → World → Prop) : (Nat → Value) → World → Prop := denL Try.prog [(cd (Try.f43.body.getD .skip) [1, 1, 0, 1, 0, 0, 0]), (cd (Try.f43.body.getD .skip) [1, 1, 0, 1, 0, 0, 1, 0])] (s43_p9_den K M1) (fun i => (bif Nat.beq i 0 then (s43_p1_den K) else (fun _ _ => False))) (s43_R K)
theorem s43_p10_ok (K : Value → World → Prop) (B1 : List Value → World → Prop) (s : Nat → Value) (w : World) (h : s43_p10 K B1 (s 0) (s 3) (s 10) w) : Tr (s43_p10_den K (fun s w => B1 [s 0, s 3, s 10] w) s w) :=
  tr_simple (P := Try.prog) (codes := [(cd (Try.f43.body.getD .skip) [1, 1, 0, 1, 0, 0, 0]), (cd (Try.f43.body.getD .skip) [1, 1, 0, 1, 0, 0, 1, 0])]) (N := (fun s w => s43_p9 K B1 (s 0) (s 3) (s 10) w)) (N' := (s43_p9_den K (fun s w => B1 [s 0, s 3, s 10] w))) (X := (fun i => (bif Nat.beq i 0 then (fun s w => s43_p1 K (s 0) w) else (fun _ _ => False)))) (X' := (fun i => (bif Nat.beq i 0 then (s43_p1_den K) else (fun _ _ => False)))) (R := s43_R K) (s := s) (w := w) (p := s43_p10 K B1 (s 0) (s 3) (s 10) w) (q := s43_p10_den K (fun s w => B1 [s 0, s 3, s 10] w) s w) (fun s w h => s43_p9_ok K B1 s w @h) (fun i => (tr_bif (fun s w h => s43_p1_ok K s w @h) tr_id)) (by kernel_rfl) (by kernel_rfl) @h
def s43_p11_F (K : Value → World → Prop) (B1 : List Value → World → Prop) (l : List Value) (w : World) : Prop :=
  match l with
  | [t0, t3, t10] => s43_p10 K B1 t0 t3 t10 w
  | _ => False
theorem s43_p11_Fe {K : Value → World → Prop} {B1 : List Value → World → Prop} {t0 t3 t10 : Value} {w : World} : s43_p11_F K B1 [t0, t3, t10] w = s43_p10 K B1 t0 t3 t10 w := by kernel_rfl
def s43_p11 (K : Value → World → Prop) (t0 t3 t10 : Value) (w : World) : Prop :=
  LoopL (s43_p11_F K) [t0, t3, t10] w
def s43_p11_den (K : Value → World → Prop) : (Nat → Value) → World → Prop := fun s w => LoopP (fun M1 s w => s43_p10_den K M1 s w) s w
theorem s43_p11_ok (K : Value → World → Prop) (s : Nat → Value) (w : World) (h : s43_p11 K (s 0) (s 3) (s 10) w) : Tr (s43_p11_den K s w) :=
  tr_loop (G := fun N' s w => s43_p10_den K N' s w) (F := s43_p11_F K) (sel := fun s => [s 0, s 3, s 10]) (s := s) (w := w) (p := s43_p11 K (s 0) (s 3) (s 10) w) (q := s43_p11_den K s w) (fun B s w h => s43_p10_ok K B s w @h) (by kernel_rfl) (by kernel_rfl) @h
def s43_p12 (K : Value → World → Prop) (t0 t1 : Value) (w : World) : Prop :=
  nw 32 (t1).cells (fun t3 w =>
  nck t0 (fun t7 w =>
  fd 24 t7 (fun t8 w =>
  ld1 t8 (fun t9 w =>
  ifb t9
  (K (.int .i64 4) w)
  (s43_p11 K t0 t3 (.int .i64 0) w)) w) w) w) w
def s43_p12_den (K : Value → World → Prop) : (Nat → Value) → World → Prop := denL Try.prog [(cd (Try.f43.body.getD .skip) [0]), (cd (Try.f43.body.getD .skip) [1, 0, 0]), (cd (Try.f43.body.getD .skip) [1, 0, 1]), (cd (Try.f43.body.getD .skip) [1, 1, 0, 0])] (s43_p11_den K) (fun i => (fun _ _ => False)) (s43_R K)
theorem s43_p12_ok (K : Value → World → Prop) (s : Nat → Value) (w : World) (h : s43_p12 K (s 0) (s 1) w) : Tr (s43_p12_den K s w) :=
  tr_simple (P := Try.prog) (codes := [(cd (Try.f43.body.getD .skip) [0]), (cd (Try.f43.body.getD .skip) [1, 0, 0]), (cd (Try.f43.body.getD .skip) [1, 0, 1]), (cd (Try.f43.body.getD .skip) [1, 1, 0, 0])]) (N := (fun s w => s43_p11 K (s 0) (s 3) (s 10) w)) (N' := (s43_p11_den K)) (X := (fun i => (fun _ _ => False))) (X' := (fun i => (fun _ _ => False))) (R := s43_R K) (s := s) (w := w) (p := s43_p12 K (s 0) (s 1) w) (q := s43_p12_den K s w) (fun s w h => s43_p11_ok K s w @h) (fun i => tr_id) (by kernel_rfl) (by kernel_rfl) @h
/-- the call, from the text -/
theorem c43 (t0 t1 : Value) {K : Value → World → Prop} {w : World} (h : s43_p12 K t0 t1 w) : cl Try.prog 43 #[t0, t1] K w :=
  calls_of_tr (c := (Try.f43.body.getD .skip)) (fn := Try.f43) (q := s43_p12_den K (st0 #[t0, t1]) w) Try.func43 (by kernel_rfl) (by kernel_rfl) (Nat.le_of_ble_eq_true (by kernel_rfl)) (by kernel_rfl) (by kernel_rfl) (s43_p12_ok K (st0 #[t0, t1]) w @h)

/-! ### function 44 : (*e2e.diskm.Disk).Restart -/
def s44_R (K : Value → World → Prop) (s : Nat → Value) (w : World) : Prop := retv Try.prog s Try.f44.results.toList (fun vs => K (pack vs) w) w
def s44_p1 (K : Value → World → Prop) (t0 : Value) (w : World) : Prop :=
  nck t0 (fun t4 w =>
  fd 24 t4 (fun t5 w =>
  ld1 t5 (fun t6 w =>
  un .not t6 (fun t7 w =>
  ifb t7
  (K (.int .i64 5) w)
  (nck t0 (fun t9 w =>
  fd 24 t9 (fun t10 w =>
  st1 t10 (.bool false) (fun w =>
  nck t0 (fun t12 w =>
  fd 29 t12 (fun t13 w =>
  fd 4 t13 (fun t14 w =>
  ld1 t14 (fun t15 w =>
  boI .add t15 (.int .i64 1) (fun t16 w =>
  nck t0 (fun t17 w =>
  fd 29 t17 (fun t18 w =>
  fd 4 t18 (fun t19 w =>
  st1 t19 t16 (fun w =>
  K (.int .i64 0) w) w) w) w) w) w) w) w) w) w) w) w) w)) w) w) w) w
def s44_p1_den (K : Value → World → Prop) : (Nat → Value) → World → Prop := denL Try.prog [(cd (Try.f44.body.getD .skip) [0]), (cd (Try.f44.body.getD .skip) [1, 0, 0]), (cd (Try.f44.body.getD .skip) [1, 0, 1]), (cd (Try.f44.body.getD .skip) [1, 1, 0]), (cd (Try.f44.body.getD .skip) [1, 1, 1, 0]), (cd (Try.f44.body.getD .skip) [1, 1, 1, 1, 0]), (cd (Try.f44.body.getD .skip) [1, 1, 1, 1, 1])] (fun _ _ => False) (fun i => (fun _ _ => False)) (s44_R K)
theorem s44_p1_ok (K : Value → World → Prop) (s : Nat → Value) (w : World) (h : s44_p1 K (s 0) w) : Tr (s44_p1_den K s w) :=
  tr_simple (P := Try.prog) (codes := [(cd (Try.f44.body.getD .skip) [0]), (cd (Try.f44.body.getD .skip) [1, 0, 0]), (cd (Try.f44.body.getD .skip) [1, 0, 1]), (cd (Try.f44.body.getD .skip) [1, 1, 0]), (cd (Try.f44.body.getD .skip) [1, 1, 1, 0]), (cd (Try.f44.body.getD .skip) [1, 1, 1, 1, 0]), (cd (Try.f44.body.getD .skip) [1, 1, 1, 1, 1])]) (N := (fun _ _ => False)) (N' := (fun _ _ => False)) (X := (fun i => (fun _ _ => False))) (X' := (fun i => (fun _ _ => False))) (R := s44_R K) (s := s) (w := w) (p := s44_p1 K (s 0) w) (q := s44_p1_den K s w) tr_id (fun i => tr_id) (by kernel_rfl) (by kernel_rfl) @h
/-- the call, from the text -/
theorem c44 (t0 : Value) {K : Value → World → Prop} {w : World} (h : s44_p1 K t0 w) : cl Try.prog 44 #[t0] K w :=
  calls_of_tr (c := (Try.f44.body.getD .skip)) (fn := Try.f44) (q := s44_p1_den K (st0 #[t0]) w) Try.func44 (by kernel_rfl) (by kernel_rfl) (Nat.le_of_ble_eq_true (by kernel_rfl)) (by kernel_rfl) (by kernel_rfl) (s44_p1_ok K (st0 #[t0]) w @h)

/-! ### function 45 : (*e2e.diskm.Disk).Arm -/
def s45_R (K : Value → World → Prop) (s : Nat → Value) (w : World) : Prop := retv Try.prog s Try.f45.results.toList (fun vs => K (pack vs) w) w
def s45_p1 (K : Value → World → Prop) (w : World) : Prop :=
  K (.int .i64 0) w
def s45_p1_den (K : Value → World → Prop) : (Nat → Value) → World → Prop := denL Try.prog [(cd (Try.f45.body.getD .skip) [1, 1, 1, 1, 1, 0]), (cd (Try.f45.body.getD .skip) [1, 1, 1, 1, 1, 1])] (fun _ _ => False) (fun i => (fun _ _ => False)) (s45_R K)
theorem s45_p1_ok (K : Value → World → Prop) (s : Nat → Value) (w : World) (h : s45_p1 K w) : Tr (s45_p1_den K s w) :=
  tr_simple (P := Try.prog) (codes := [(cd (Try.f45.body.getD .skip) [1, 1, 1, 1, 1, 0]), (cd (Try.f45.body.getD .skip) [1, 1, 1, 1, 1, 1])]) (N := (fun _ _ => False)) (N' := (fun _ _ => False)) (X := (fun i => (fun _ _ => False))) (X' := (fun i => (fun _ _ => False))) (R := s45_R K) (s := s) (w := w) (p := s45_p1 K w) (q := s45_p1_den K s w) tr_id (fun i => tr_id) (by kernel_rfl) (by kernel_rfl) @h
def s45_p2_d (K : Value → World → Prop) (t0 t5 : Value) (w0 w : World) : Prop :=
  fd 0 t5 (fun t19 _ =>
  ld1 t19 (fun t20 _ =>
  fd 1 t5 (fun t22 _ =>
  ld1 t22 (fun t23 _ =>
  fd 2 t5 (fun t24 _ =>
  ld1 t24 (fun t25 _ =>
  nck t0 (fun t27 _ =>
  fd 26 t27 (fun t28 _ =>
  bsq 3 [(.int .i64 0)] 0 [] (fun t18 w =>
  Below w0.heap.size w0 w ∧
  apq 3 [(.int .i64 0)] 8 t18 t20 (fun t21 w =>
  Below w0.heap.size w0 w ∧
  bdq [(.slice none 0 0), (.int .i64 0), (.int .i64 0)] [(some (0, 1), t21), (some (1, 1), t23), (some (2, 1), t25)] (fun t26 w =>
  stn 3 t28 t26 (fun w =>
  s45_p1 K w) w) w) w) w) w0) w0) w0) w0) w0) w0) w0) w0
def s45_p2 (K : Value → World → Prop) (t0 t5 : Value) (w : World) : Prop := s45_p2_d K t0 t5 (drw w) (drw w)
def s45_p2_den (K : Value → World → Prop) : (Nat → Value) → World → Prop := denL Try.prog [(cd (Try.f45.body.getD .skip) [1, 1, 1, 1, 0])] (s45_p1_den K) (fun i => (fun _ _ => False)) (s45_R K)
theorem s45_p2_ok (K : Value → World → Prop) (s : Nat → Value) (w : World) (h : s45_p2 K (s 0) (s 5) w) : Tr (s45_p2_den K s w) :=
  tr_draw (P := Try.prog) (ops := (ro (cd (Try.f45.body.getD .skip) [1, 1, 1, 1, 0]))) (ms := [0, 0, 0, 4, 14, 0, 32, 0, 128, 510, 1023, 2047, 4095]) (cs := [0, 2, 3, 5, 6, 7, 8, 10, 11]) (N := (fun s w => s45_p1 K w)) (N' := (s45_p1_den K)) (s := s) (w := w) (p := s45_p2 K (s 0) (s 5) w) (q := s45_p2_den K s w) (by kernel_rfl) (by kernel_rfl) (fun s w h => s45_p1_ok K s w @h) (by kernel_rfl) (by kernel_rfl) @h
def s45_p3 (K : Value → World → Prop) (t0 t1 t2 : Value) (w : World) : Prop :=
  nw 32 (t2).cells (fun t5 w =>
  nck t0 (fun t8 w =>
  fd 24 t8 (fun t9 w =>
  ld1 t9 (fun t10 w =>
  ifb t10
  (K (.int .i64 4) w)
  (boI .lss t1 (.int .i64 1) (fun t12 w =>
  ifb t12
  (K (.int .i64 3) w)
  (nck t0 (fun t15 w =>
  fd 25 t15 (fun t16 w =>
  st1 t16 t1 (fun w =>
  s45_p2 K t0 t5 w) w) w) w)) w)) w) w) w) w
def s45_p3_den (K : Value → World → Prop) : (Nat → Value) → World → Prop := denL Try.prog [(cd (Try.f45.body.getD .skip) [0]), (cd (Try.f45.body.getD .skip) [1, 0, 0]), (cd (Try.f45.body.getD .skip) [1, 0, 1]), (cd (Try.f45.body.getD .skip) [1, 1, 0, 0]), (cd (Try.f45.body.getD .skip) [1, 1, 0, 1]), (cd (Try.f45.body.getD .skip) [1, 1, 1, 0])] (s45_p2_den K) (fun i => (fun _ _ => False)) (s45_R K)
theorem s45_p3_ok (K : Value → World → Prop) (s : Nat → Value) (w : World) (h : s45_p3 K (s 0) (s 1) (s 2) w) : Tr (s45_p3_den K s w) :=
  tr_simple (P := Try.prog) (codes := [(cd (Try.f45.body.getD .skip) [0]), (cd (Try.f45.body.getD .skip) [1, 0, 0]), (cd (Try.f45.body.getD .skip) [1, 0, 1]), (cd (Try.f45.body.getD .skip) [1, 1, 0, 0]), (cd (Try.f45.body.getD .skip) [1, 1, 0, 1]), (cd (Try.f45.body.getD .skip) [1, 1, 1, 0])]) (N := (fun s w => s45_p2 K (s 0) (s 5) w)) (N' := (s45_p2_den K)) (X := (fun i => (fun _ _ => False))) (X' := (fun i => (fun _ _ => False))) (R := s45_R K) (s := s) (w := w) (p := s45_p3 K (s 0) (s 1) (s 2) w) (q := s45_p3_den K s w) (fun s w h => s45_p2_ok K s w @h) (fun i => tr_id) (by kernel_rfl) (by kernel_rfl) @h
/-- the call, from the text -/
theorem c45 (t0 t1 t2 : Value) {K : Value → World → Prop} {w : World} (h : s45_p3 K t0 t1 t2 w) : cl Try.prog 45 #[t0, t1, t2] K w :=
  calls_of_tr (c := (Try.f45.body.getD .skip)) (fn := Try.f45) (q := s45_p3_den K (st0 #[t0, t1, t2]) w) Try.func45 (by kernel_rfl) (by kernel_rfl) (Nat.le_of_ble_eq_true (by kernel_rfl)) (by kernel_rfl) (by kernel_rfl) (s45_p3_ok K (st0 #[t0, t1, t2]) w @h)

/-! ### function 46 : (*e2e.diskm.Disk).Disarm -/
def s46_R (K : Value → World → Prop) (s : Nat → Value) (w : World) : Prop := retv Try.prog s Try.f46.results.toList (fun vs => K (pack vs) w) w
def s46_p1 (K : Value → World → Prop) (t0 : Value) (w : World) : Prop :=
  nck t0 (fun t4 w =>
  fd 24 t4 (fun t5 w =>
  ld1 t5 (fun t6 w =>
  ifb t6
  (K (.int .i64 4) w)
  (nck t0 (fun t8 w =>
  fd 25 t8 (fun t9 w =>
  st1 t9 (.int .i64 0) (fun w =>
  bdq [(.slice none 0 0), (.int .i64 0), (.int .i64 0)] [] (fun t11 w =>
  nck t0 (fun t12 w =>
  fd 26 t12 (fun t13 w =>
  stn 3 t13 t11 (fun w =>
  K (.int .i64 0) w) w) w) w) w) w) w) w)) w) w) w
def s46_p1_den (K : Value → World → Prop) : (Nat → Value) → World → Prop := denL Try.prog [(cd (Try.f46.body.getD .skip) [0]), (cd (Try.f46.body.getD .skip) [1, 0, 0]), (cd (Try.f46.body.getD .skip) [1, 0, 1]), (cd (Try.f46.body.getD .skip) [1, 1, 0]), (cd (Try.f46.body.getD .skip) [1, 1, 1, 0]), (cd (Try.f46.body.getD .skip) [1, 1, 1, 1, 0]), (cd (Try.f46.body.getD .skip) [1, 1, 1, 1, 1])] (fun _ _ => False) (fun i => (fun _ _ => False)) (s46_R K)
theorem s46_p1_ok (K : Value → World → Prop) (s : Nat → Value) (w : World) (h : s46_p1 K (s 0) w) : Tr (s46_p1_den K s w) :=
  tr_simple (P := Try.prog) (codes := [(cd (Try.f46.body.getD .skip) [0]), (cd (Try.f46.body.getD .skip) [1, 0, 0]), (cd (Try.f46.body.getD .skip) [1, 0, 1]), (cd (Try.f46.body.getD .skip) [1, 1, 0]), (cd (Try.f46.body.getD .skip) [1, 1, 1, 0]), (cd (Try.f46.body.getD .skip) [1, 1, 1, 1, 0]), (cd (Try.f46.body.getD .skip) [1, 1, 1, 1, 1])]) (N := (fun _ _ => False)) (N' := (fun _ _ => False)) (X := (fun i => (fun _ _ => False))) (X' := (fun i => (fun _ _ => False))) (R := s46_R K) (s := s) (w := w) (p := s46_p1 K (s 0) w) (q := s46_p1_den K s w) tr_id (fun i => tr_id) (by kernel_rfl) (by kernel_rfl) @h
/-- the call, from the text -/
theorem c46 (t0 : Value) {K : Value → World → Prop} {w : World} (h : s46_p1 K t0 w) : cl Try.prog 46 #[t0] K w :=
  calls_of_tr (c := (Try.f46.body.getD .skip)) (fn := Try.f46) (q := s46_p1_den K (st0 #[t0]) w) Try.func46 (by kernel_rfl) (by kernel_rfl) (Nat.le_of_ble_eq_true (by kernel_rfl)) (by kernel_rfl) (by kernel_rfl) (s46_p1_ok K (st0 #[t0]) w @h)

/-! ### function 47 : e2e.disklaw.sameInts -/
def s47_R (K : Value → World → Prop) (s : Nat → Value) (w : World) : Prop := retv Try.prog s Try.f47.results.toList (fun vs => K (pack vs) w) w
def s47_p1 (K : Value → World → Prop) (w : World) : Prop :=
  K (.bool true) w
def s47_p1_den (K : Value → World → Prop) : (Nat → Value) → World → Prop := denL Try.prog [(cd (Try.f47.body.getD .skip) [1, 1, 1, 0]), (cd (Try.f47.body.getD .skip) [1, 1, 1, 1])] (fun _ _ => False) (fun i => (fun _ _ => False)) (s47_R K)
theorem s47_p1_ok (K : Value → World → Prop) (s : Nat → Value) (w : World) (h : s47_p1 K w) : Tr (s47_p1_den K s w) :=
  tr_simple (P := Try.prog) (codes := [(cd (Try.f47.body.getD .skip) [1, 1, 1, 0]), (cd (Try.f47.body.getD .skip) [1, 1, 1, 1])]) (N := (fun _ _ => False)) (N' := (fun _ _ => False)) (X := (fun i => (fun _ _ => False))) (X' := (fun i => (fun _ _ => False))) (R := s47_R K) (s := s) (w := w) (p := s47_p1 K w) (q := s47_p1_den K s w) tr_id (fun i => tr_id) (by kernel_rfl) (by kernel_rfl) @h
def s47_p2 (K : Value → World → Prop) (B1 : List Value → World → Prop) (t0 t1 t12 t13 : Value) (w : World) : Prop :=
  boI .add t13 (.int .i64 1) (fun t25 w =>
  B1 [t0, t1, t12, t25] w) w
def s47_p2_den (K : Value → World → Prop) (M1 : (Nat → Value) → World → Prop) : (Nat → Value) → World → Prop := denL Try.prog [(cd (Try.f47.body.getD .skip) [1, 1, 0, 1, 0, 0, 1, 1, 1])] M1 (fun i => (bif Nat.beq i 0 then (s47_p1_den K) else (fun _ _ => False))) (s47_R K)
theorem s47_p2_ok (K : Value → World → Prop) (B1 : List Value → World → Prop) (s : Nat → Value) (w : World) (h : s47_p2 K B1 (s 0) (s 1) (s 12) (s 13) w) : Tr (s47_p2_den K (fun s w => B1 [s 0, s 1, s 12, s 13] w) s w) :=
  tr_simple (P := Try.prog) (codes := [(cd (Try.f47.body.getD .skip) [1, 1, 0, 1, 0, 0, 1, 1, 1])]) (N := (fun s w => B1 [s 0, s 1, s 12, s 13] w)) (N' := (fun s w => B1 [s 0, s 1, s 12, s 13] w)) (X := (fun i => (bif Nat.beq i 0 then (fun s w => s47_p1 K w) else (fun _ _ => False)))) (X' := (fun i => (bif Nat.beq i 0 then (s47_p1_den K) else (fun _ _ => False)))) (R := s47_R K) (s := s) (w := w) (p := s47_p2 K B1 (s 0) (s 1) (s 12) (s 13) w) (q := s47_p2_den K (fun s w => B1 [s 0, s 1, s 12, s 13] w) s w) tr_id (fun i => (tr_bif (fun s w h => s47_p1_ok K s w @h) tr_id)) (by kernel_rfl) (by kernel_rfl) @h
def s47_p3 (K : Value → World → Prop) (B1 : List Value → World → Prop) (t0 t1 t12 t13 t24 : Value) (w : World) : Prop :=
  ifb t24
  (K (.bool false) w)
  (s47_p2 K B1 t0 t1 t12 t13 w)
def s47_p3_den (K : Value → World → Prop) (M1 : (Nat → Value) → World → Prop) : (Nat → Value) → World → Prop := denL Try.prog [(cd (Try.f47.body.getD .skip) [1, 1, 0, 1, 0, 0, 1, 1, 0, 0, 1, 1])] (s47_p2_den K M1) (fun i => (bif Nat.beq i 1 then (s47_p2_den K M1) else (bif Nat.beq i 0 then (s47_p1_den K) else (fun _ _ => False)))) (s47_R K)
theorem s47_p3_ok (K : Value → World → Prop) (B1 : List Value → World → Prop) (s : Nat → Value) (w : World) (h : s47_p3 K B1 (s 0) (s 1) (s 12) (s 13) (s 24) w) : Tr (s47_p3_den K (fun s w => B1 [s 0, s 1, s 12, s 13] w) s w) :=
  tr_simple (P := Try.prog) (codes := [(cd (Try.f47.body.getD .skip) [1, 1, 0, 1, 0, 0, 1, 1, 0, 0, 1, 1])]) (N := (fun s w => s47_p2 K B1 (s 0) (s 1) (s 12) (s 13) w)) (N' := (s47_p2_den K (fun s w => B1 [s 0, s 1, s 12, s 13] w))) (X := (fun i => (bif Nat.beq i 1 then (fun s w => s47_p2 K B1 (s 0) (s 1) (s 12) (s 13) w) else (bif Nat.beq i 0 then (fun s w => s47_p1 K w) else (fun _ _ => False))))) (X' := (fun i => (bif Nat.beq i 1 then (s47_p2_den K (fun s w => B1 [s 0, s 1, s 12, s 13] w)) else (bif Nat.beq i 0 then (s47_p1_den K) else (fun _ _ => False))))) (R := s47_R K) (s := s) (w := w) (p := s47_p3 K B1 (s 0) (s 1) (s 12) (s 13) (s 24) w) (q := s47_p3_den K (fun s w => B1 [s 0, s 1, s 12, s 13] w) s w) (fun s w h => s47_p2_ok K B1 s w @h) (fun i => (tr_bif (fun s w h => s47_p2_ok K B1 s w @h) (tr_bif (fun s w h => s47_p1_ok K s w @h) tr_id))) (by kernel_rfl) (by kernel_rfl) @h
def s47_p4_d (K : Value → World → Prop) (B1 : List Value → World → Prop) (t0 t1 t5 t12 t13 : Value) (w0 w : World) : Prop :=
  ixs 1 t0 t5 (fun t18 _ =>
  ld1 t18 (fun t19 _ =>
  ixs 1 t1 t5 (fun t22 _ =>
  ld1 t22 (fun t23 _ =>
  boI .neq t19 t23 (fun t24 _ =>
  s47_p3 K B1 t0 t1 t12 t13 t24 w) w0) w0) w0) w0) w0
def s47_p4 (K : Value → World → Prop) (B1 : List Value → World → Prop) (t0 t1 t5 t12 t13 : Value) (w : World) : Prop := s47_p4_d K B1 t0 t1 t5 t12 t13 (drw w) (drw w)
def s47_p4_den (K : Value → World → Prop) (M1 : (Nat → Value) → World → Prop) : (Nat → Value) → World → Prop := denL Try.prog [(cd (Try.f47.body.getD .skip) [1, 1, 0, 1, 0, 0, 1, 1, 0, 0, 1, 0])] (s47_p3_den K M1) (fun i => (bif Nat.beq i 1 then (s47_p2_den K M1) else (bif Nat.beq i 0 then (s47_p1_den K) else (fun _ _ => False)))) (s47_R K)
theorem s47_p4_ok (K : Value → World → Prop) (B1 : List Value → World → Prop) (s : Nat → Value) (w : World) (h : s47_p4 K B1 (s 0) (s 1) (s 5) (s 12) (s 13) w) : Tr (s47_p4_den K (fun s w => B1 [s 0, s 1, s 12, s 13] w) s w) :=
  tr_draw (P := Try.prog) (ops := (ro (cd (Try.f47.body.getD .skip) [1, 1, 0, 1, 0, 0, 1, 1, 0, 0, 1, 0]))) (ms := [0, 0, 3, 7, 0, 0, 48, 112, 255]) (cs := [0, 1, 2, 3, 4, 5, 6, 7, 8]) (N := (fun s w => s47_p3 K B1 (s 0) (s 1) (s 12) (s 13) (s 24) w)) (N' := (s47_p3_den K (fun s w => B1 [s 0, s 1, s 12, s 13] w))) (s := s) (w := w) (p := s47_p4 K B1 (s 0) (s 1) (s 5) (s 12) (s 13) w) (q := s47_p4_den K (fun s w => B1 [s 0, s 1, s 12, s 13] w) s w) (by kernel_rfl) (by kernel_rfl) (fun s w h => s47_p3_ok K B1 s w @h) (by kernel_rfl) (by kernel_rfl) @h
def s47_p5 (K : Value → World → Prop) (B1 : List Value → World → Prop) (t0 t1 t12 t13 : Value) (w : World) : Prop :=
  s47_p4 K B1 t0 t1 t13 t12 t13 w
def s47_p5_den (K : Value → World → Prop) (M1 : (Nat → Value) → World → Prop) : (Nat → Value) → World → Prop := denL Try.prog [(cd (Try.f47.body.getD .skip) [1, 1, 0, 1, 0, 0, 1, 1, 0, 0, 0])] (s47_p4_den K M1) (fun i => (bif Nat.beq i 1 then (s47_p2_den K M1) else (bif Nat.beq i 0 then (s47_p1_den K) else (fun _ _ => False)))) (s47_R K)
theorem s47_p5_ok (K : Value → World → Prop) (B1 : List Value → World → Prop) (s : Nat → Value) (w : World) (h : s47_p5 K B1 (s 0) (s 1) (s 12) (s 13) w) : Tr (s47_p5_den K (fun s w => B1 [s 0, s 1, s 12, s 13] w) s w) :=
  tr_simple (P := Try.prog) (codes := [(cd (Try.f47.body.getD .skip) [1, 1, 0, 1, 0, 0, 1, 1, 0, 0, 0])]) (N := (fun s w => s47_p4 K B1 (s 0) (s 1) (s 5) (s 12) (s 13) w)) (N' := (s47_p4_den K (fun s w => B1 [s 0, s 1, s 12, s 13] w))) (X := (fun i => (bif Nat.beq i 1 then (fun s w => s47_p2 K B1 (s 0) (s 1) (s 12) (s 13) w) else (bif Nat.beq i 0 then (fun s w => s47_p1 K w) else (fun _ _ => False))))) (X' := (fun i => (bif Nat.beq i 1 then (s47_p2_den K (fun s w => B1 [s 0, s 1, s 12, s 13] w)) else (bif Nat.beq i 0 then (s47_p1_den K) else (fun _ _ => False))))) (R := s47_R K) (s := s) (w := w) (p := s47_p5 K B1 (s 0) (s 1) (s 12) (s 13) w) (q := s47_p5_den K (fun s w => B1 [s 0, s 1, s 12, s 13] w) s w) (fun s w h => s47_p4_ok K B1 s w @h) (fun i => (tr_bif (fun s w h => s47_p2_ok K B1 s w @h) (tr_bif (fun s w h => s47_p1_ok K s w @h) tr_id))) (by kernel_rfl) (by kernel_rfl) @h
def s47_p6 (K : Value → World → Prop) (B1 : List Value → World → Prop) (t0 t1 t12 t13 : Value) (w : World) : Prop :=
  boI .lss t13 t12 (fun t14 w =>
  ifb t14
  (s47_p5 K B1 t0 t1 t12 t13 w)
  (s47_p1 K w)) w
def s47_p6_den (K : Value → World → Prop) (M1 : (Nat → Value) → World → Prop) : (Nat → Value) → World → Prop := denL Try.prog [(cd (Try.f47.body.getD .skip) [1, 1, 0, 1, 0, 0, 0]), (cd (Try.f47.body.getD .skip) [1, 1, 0, 1, 0, 0, 1, 0])] (s47_p5_den K M1) (fun i => (bif Nat.beq i 0 then (s47_p1_den K) else (fun _ _ => False))) (s47_R K)
theorem s47_p6_ok (K : Value → World → Prop) (B1 : List Value → World → Prop) (s : Nat → Value) (w : World) (h : s47_p6 K B1 (s 0) (s 1) (s 12) (s 13) w) : Tr (s47_p6_den K (fun s w => B1 [s 0, s 1, s 12, s 13] w) s w) :=
  tr_simple (P := Try.prog) (codes := [(cd (Try.f47.body.getD .skip) [1, 1, 0, 1, 0, 0, 0]), (cd (Try.f47.body.getD .skip) [1, 1, 0, 1, 0, 0, 1, 0])]) (N := (fun s w => s47_p5 K B1 (s 0) (s 1) (s 12) (s 13) w)) (N' := (s47_p5_den K (fun s w => B1 [s 0, s 1, s 12, s 13] w))) (X := (fun i => (bif Nat.beq i 0 then (fun s w => s47_p1 K w) else (fun _ _ => False)))) (X' := (fun i => (bif Nat.beq i 0 then (s47_p1_den K) else (fun _ _ => False)))) (R := s47_R K) (s := s) (w := w) (p := s47_p6 K B1 (s 0) (s 1) (s 12) (s 13) w) (q := s47_p6_den K (fun s w => B1 [s 0, s 1, s 12, s 13] w) s w) (fun s w h => s47_p5_ok K B1 s w @h) (fun i => (tr_bif (fun s w h => s47_p1_ok K s w @h) tr_id)) (by kernel_rfl) (by kernel_rfl) @h
def s47_p7_F (K : Value → World → Prop) (B1 : List Value → World → Prop) (l : List Value) (w : World) : Prop :=
  match l with
  | [t0, t1, t12, t13] => s47_p6 K B1 t0 t1 t12 t13 w
  | _ => False
theorem s47_p7_Fe {K : Value → World → Prop} {B1 : List Value → World → Prop} {t0 t1 t12 t13 : Value} {w : World} : s47_p7_F K B1 [t0, t1, t12, t13] w = s47_p6 K B1 t0 t1 t12 t13 w := by kernel_rfl
def s47_p7 (K : Value → World → Prop) (t0 t1 t12 t13 : Value) (w : World) : Prop :=
  LoopL (s47_p7_F K) [t0, t1, t12, t13] w
def s47_p7_den (K : Value → World → Prop) : (Nat → Value) → World → Prop := fun s w => LoopP (fun M1 s w => s47_p6_den K M1 s w) s w
theorem s47_p7_ok (K : Value → World → Prop) (s : Nat → Value) (w : World) (h : s47_p7 K (s 0) (s 1) (s 12) (s 13) w) : Tr (s47_p7_den K s w) :=
  tr_loop (G := fun N' s w => s47_p6_den K N' s w) (F := s47_p7_F K) (sel := fun s => [s 0, s 1, s 12, s 13]) (s := s) (w := w) (p := s47_p7 K (s 0) (s 1) (s 12) (s 13) w) (q := s47_p7_den K s w) (fun B s w h => s47_p6_ok K B s w @h) (by kernel_rfl) (by kernel_rfl) @h
def s47_p8 (K : Value → World → Prop) (t0 t1 : Value) (w : World) : Prop :=
  lnS t0 (fun t7 w =>
  lnS t1 (fun t9 w =>
  boI .neq t7 t9 (fun t10 w =>
  ifb t10
  (K (.bool false) w)
  (lnS t0 (fun t12 w =>
  s47_p7 K t0 t1 t12 (.int .i64 0) w) w)) w) w) w
def s47_p8_den (K : Value → World → Prop) : (Nat → Value) → World → Prop := denL Try.prog [(cd (Try.f47.body.getD .skip) [0]), (cd (Try.f47.body.getD .skip) [1, 0, 0]), (cd (Try.f47.body.getD .skip) [1, 0, 1]), (cd (Try.f47.body.getD .skip) [1, 1, 0, 0])] (s47_p7_den K) (fun i => (fun _ _ => False)) (s47_R K)
theorem s47_p8_ok (K : Value → World → Prop) (s : Nat → Value) (w : World) (h : s47_p8 K (s 0) (s 1) w) : Tr (s47_p8_den K s w) :=
  tr_simple (P := Try.prog) (codes := [(cd (Try.f47.body.getD .skip) [0]), (cd (Try.f47.body.getD .skip) [1, 0, 0]), (cd (Try.f47.body.getD .skip) [1, 0, 1]), (cd (Try.f47.body.getD .skip) [1, 1, 0, 0])]) (N := (fun s w => s47_p7 K (s 0) (s 1) (s 12) (s 13) w)) (N' := (s47_p7_den K)) (X := (fun i => (fun _ _ => False))) (X' := (fun i => (fun _ _ => False))) (R := s47_R K) (s := s) (w := w) (p := s47_p8 K (s 0) (s 1) w) (q := s47_p8_den K s w) (fun s w h => s47_p7_ok K s w @h) (fun i => tr_id) (by kernel_rfl) (by kernel_rfl) @h
/-- the call, from the text -/
theorem c47 (t0 t1 : Value) {K : Value → World → Prop} {w : World} (h : s47_p8 K t0 t1 w) : cl Try.prog 47 #[t0, t1] K w :=
  calls_of_tr (c := (Try.f47.body.getD .skip)) (fn := Try.f47) (q := s47_p8_den K (st0 #[t0, t1]) w) Try.func47 (by kernel_rfl) (by kernel_rfl) (Nat.le_of_ble_eq_true (by kernel_rfl)) (by kernel_rfl) (by kernel_rfl) (s47_p8_ok K (st0 #[t0, t1]) w @h)

/-! ### function 48 : (*e2e.disk.Disk).Dirty -/
def s48_R (K : Value → World → Prop) (s : Nat → Value) (w : World) : Prop := retv Try.prog s Try.f48.results.toList (fun vs => K (pack vs) w) w
def s48_p1 (K : Value → World → Prop) (t0 : Value) (w : World) : Prop :=
  nck t0 (fun t4 w =>
  fd 3 t4 (fun t5 w =>
  cl Try.prog 66 #[t5] (fun t6 w =>
  K t6 w) w) w) w
def s48_p1_den (K : Value → World → Prop) : (Nat → Value) → World → Prop := denL Try.prog [(cd (Try.f48.body.getD .skip) [0]), (cd (Try.f48.body.getD .skip) [1, 0]), (cd (Try.f48.body.getD .skip) [1, 1])] (fun _ _ => False) (fun i => (fun _ _ => False)) (s48_R K)
theorem s48_p1_ok (K : Value → World → Prop) (s : Nat → Value) (w : World) (h : s48_p1 K (s 0) w) : Tr (s48_p1_den K s w) :=
  tr_simple (P := Try.prog) (codes := [(cd (Try.f48.body.getD .skip) [0]), (cd (Try.f48.body.getD .skip) [1, 0]), (cd (Try.f48.body.getD .skip) [1, 1])]) (N := (fun _ _ => False)) (N' := (fun _ _ => False)) (X := (fun i => (fun _ _ => False))) (X' := (fun i => (fun _ _ => False))) (R := s48_R K) (s := s) (w := w) (p := s48_p1 K (s 0) w) (q := s48_p1_den K s w) tr_id (fun i => tr_id) (by kernel_rfl) (by kernel_rfl) @h
/-- the call, from the text -/
theorem c48 (t0 : Value) {K : Value → World → Prop} {w : World} (h : s48_p1 K t0 w) : cl Try.prog 48 #[t0] K w :=
  calls_of_tr (c := (Try.f48.body.getD .skip)) (fn := Try.f48) (q := s48_p1_den K (st0 #[t0]) w) Try.func48 (by kernel_rfl) (by kernel_rfl) (Nat.le_of_ble_eq_true (by kernel_rfl)) (by kernel_rfl) (by kernel_rfl) (s48_p1_ok K (st0 #[t0]) w @h)

/-! ### function 49 : (*e2e.disk.Disk).Stats -/
def s49_R (K : Value → World → Prop) (s : Nat → Value) (w : World) : Prop := retv Try.prog s Try.f49.results.toList (fun vs => K (pack vs) w) w
def s49_p1 (K : Value → World → Prop) (t0 : Value) (w : World) : Prop :=
  nw 42 #[(.int .i64 0), (.int .i64 0), (.int .i64 0), (.int .i64 0), (.int .i64 0)] (fun t2 w =>
  nck t0 (fun t4 w =>
  fd 12 t4 (fun t5 w =>
  ldn 5 t5 (fun t6 w =>
  stn 5 t2 t6 (fun w =>
  ldn 5 t2 (fun r0 _ =>
  K r0 w) w) w) w) w) w) w
def s49_p1_den (K : Value → World → Prop) : (Nat → Value) → World → Prop := denL Try.prog [(cd (Try.f49.body.getD .skip) [0]), (cd (Try.f49.body.getD .skip) [1, 0]), (cd (Try.f49.body.getD .skip) [1, 1])] (fun _ _ => False) (fun i => (fun _ _ => False)) (s49_R K)
theorem s49_p1_ok (K : Value → World → Prop) (s : Nat → Value) (w : World) (h : s49_p1 K (s 0) w) : Tr (s49_p1_den K s w) :=
  tr_simple (P := Try.prog) (codes := [(cd (Try.f49.body.getD .skip) [0]), (cd (Try.f49.body.getD .skip) [1, 0]), (cd (Try.f49.body.getD .skip) [1, 1])]) (N := (fun _ _ => False)) (N' := (fun _ _ => False)) (X := (fun i => (fun _ _ => False))) (X' := (fun i => (fun _ _ => False))) (R := s49_R K) (s := s) (w := w) (p := s49_p1 K (s 0) w) (q := s49_p1_den K s w) tr_id (fun i => tr_id) (by kernel_rfl) (by kernel_rfl) @h
/-- the call, from the text -/
theorem c49 (t0 : Value) {K : Value → World → Prop} {w : World} (h : s49_p1 K t0 w) : cl Try.prog 49 #[t0] K w :=
  calls_of_tr (c := (Try.f49.body.getD .skip)) (fn := Try.f49) (q := s49_p1_den K (st0 #[t0]) w) Try.func49 (by kernel_rfl) (by kernel_rfl) (Nat.le_of_ble_eq_true (by kernel_rfl)) (by kernel_rfl) (by kernel_rfl) (s49_p1_ok K (st0 #[t0]) w @h)

/-! ### function 50 : (*e2e.diskm.Disk).Now -/
def s50_R (K : Value → World → Prop) (s : Nat → Value) (w : World) : Prop := retv Try.prog s Try.f50.results.toList (fun vs => K (pack vs) w) w
def s50_p1 (K : Value → World → Prop) (t0 t1 : Value) (w : World) : Prop :=
  nck t0 (fun t7 w =>
  fd 12 t7 (fun t8 w =>
  ixa 12 1 t8 t1 (fun t9 w =>
  ld1 t9 (fun t10 w =>
  boZ .neq t10 (.slice none 0 0) (fun t11 w =>
  ifb t11
  (nck t0 (fun t14 w =>
  fd 12 t14 (fun t15 w =>
  ixa 12 1 t15 t1 (fun t16 w =>
  ld1 t16 (fun t17 w =>
  K t17 w) w) w) w) w)
  (nck t0 (fun t20 w =>
  fd 0 t20 (fun t21 w =>
  ixa 12 1 t21 t1 (fun t22 w =>
  ld1 t22 (fun t23 w =>
  K t23 w) w) w) w) w)) w) w) w) w) w
def s50_p1_den (K : Value → World → Prop) : (Nat → Value) → World → Prop := denL Try.prog [(cd (Try.f50.body.getD .skip) [0]), (cd (Try.f50.body.getD .skip) [1, 0, 0]), (cd (Try.f50.body.getD .skip) [1, 0, 1]), (cd (Try.f50.body.getD .skip) [1, 1, 0]), (cd (Try.f50.body.getD .skip) [1, 1, 1])] (fun _ _ => False) (fun i => (fun _ _ => False)) (s50_R K)
theorem s50_p1_ok (K : Value → World → Prop) (s : Nat → Value) (w : World) (h : s50_p1 K (s 0) (s 1) w) : Tr (s50_p1_den K s w) :=
  tr_simple (P := Try.prog) (codes := [(cd (Try.f50.body.getD .skip) [0]), (cd (Try.f50.body.getD .skip) [1, 0, 0]), (cd (Try.f50.body.getD .skip) [1, 0, 1]), (cd (Try.f50.body.getD .skip) [1, 1, 0]), (cd (Try.f50.body.getD .skip) [1, 1, 1])]) (N := (fun _ _ => False)) (N' := (fun _ _ => False)) (X := (fun i => (fun _ _ => False))) (X' := (fun i => (fun _ _ => False))) (R := s50_R K) (s := s) (w := w) (p := s50_p1 K (s 0) (s 1) w) (q := s50_p1_den K s w) tr_id (fun i => tr_id) (by kernel_rfl) (by kernel_rfl) @h
/-- the call, from the text -/
theorem c50 (t0 t1 : Value) {K : Value → World → Prop} {w : World} (h : s50_p1 K t0 t1 w) : cl Try.prog 50 #[t0, t1] K w :=
  calls_of_tr (c := (Try.f50.body.getD .skip)) (fn := Try.f50) (q := s50_p1_den K (st0 #[t0, t1]) w) Try.func50 (by kernel_rfl) (by kernel_rfl) (Nat.le_of_ble_eq_true (by kernel_rfl)) (by kernel_rfl) (by kernel_rfl) (s50_p1_ok K (st0 #[t0, t1]) w @h)

/-! ### function 51 : e2e.disk.copyPlan -/
def s51_R (K : Value → World → Prop) (s : Nat → Value) (w : World) : Prop := retv Try.prog s Try.f51.results.toList (fun vs => K (pack vs) w) w
def s51_p1 (K : Value → World → Prop) (t2 t3 : Value) (w : World) : Prop :=
  ldn 3 t3 (fun t23 w =>
  stn 3 t2 t23 (fun w =>
  ldn 3 t2 (fun r0 _ =>
  K r0 w) w) w) w
def s51_p1_den (K : Value → World → Prop) : (Nat → Value) → World → Prop := denL Try.prog [(cd (Try.f51.body.getD .skip) [1, 1, 1, 0]), (cd (Try.f51.body.getD .skip) [1, 1, 1, 1])] (fun _ _ => False) (fun i => (fun _ _ => False)) (s51_R K)
theorem s51_p1_ok (K : Value → World → Prop) (s : Nat → Value) (w : World) (h : s51_p1 K (s 2) (s 3) w) : Tr (s51_p1_den K s w) :=
  tr_simple (P := Try.prog) (codes := [(cd (Try.f51.body.getD .skip) [1, 1, 1, 0]), (cd (Try.f51.body.getD .skip) [1, 1, 1, 1])]) (N := (fun _ _ => False)) (N' := (fun _ _ => False)) (X := (fun i => (fun _ _ => False))) (X' := (fun i => (fun _ _ => False))) (R := s51_R K) (s := s) (w := w) (p := s51_p1 K (s 2) (s 3) w) (q := s51_p1_den K s w) tr_id (fun i => tr_id) (by kernel_rfl) (by kernel_rfl) @h
def s51_p2 (K : Value → World → Prop) (t0 : Value) (w : World) : Prop :=
  nw 32 (t0).cells (fun t1 w =>
  nw 32 #[(.slice none 0 0), (.int .i64 0), (.int .i64 0)] (fun t2 w =>
  fd 1 t1 (fun t4 w =>
  ld1 t4 (fun t5 w =>
  fd 2 t1 (fun t6 w =>
  ld1 t6 (fun t7 w =>
  bdq [(.slice none 0 0), (.int .i64 0), (.int .i64 0)] [(some (1, 1), t5), (some (2, 1), t7)] (fun t8 w =>
  nw 32 #[(.slice none 0 0), (.int .i64 0), (.int .i64 0)] (fun t3 w =>
  stn 3 t3 t8 (fun w =>
  fd 0 t1 (fun t9 w =>
  ld1 t9 (fun t10 w =>
  lnS t10 (fun t11 w =>
  boI .gtr t11 (.int .i64 0) (fun t12 w =>
  ifb t12
  (fd 0 t1 (fun t13 w =>
  ld1 t13 (fun t14 w =>
  lnS t14 (fun t15 w =>
  mks 3 [(.int .i64 0)] 8 t15 t15 (fun t16 w =>
  fd 0 t3 (fun t17 w =>
  st1 t17 t16 (fun w =>
  fd 0 t3 (fun t18 w =>
  ld1 t18 (fun t19 w =>
  fd 0 t1 (fun t20 w =>
  ld1 t20 (fun t21 w =>
  cpq 1 t19 t21 (fun t22 w =>
  s51_p1 K t2 t3 w) w) w) w) w) w) w) w) w) w) w) w)
  (s51_p1 K t2 t3 w)) w) w) w) w) w) w) w) w) w) w) w) w) w
def s51_p2_den (K : Value → World → Prop) : (Nat → Value) → World → Prop := denL Try.prog [(cd (Try.f51.body.getD .skip) [0]), (cd (Try.f51.body.getD .skip) [1, 0]), (cd (Try.f51.body.getD .skip) [1, 1, 0, 0]), (cd (Try.f51.body.getD .skip) [1, 1, 0, 1])] (s51_p1_den K) (fun i => (fun _ _ => False)) (s51_R K)
theorem s51_p2_ok (K : Value → World → Prop) (s : Nat → Value) (w : World) (h : s51_p2 K (s 0) w) : Tr (s51_p2_den K s w) :=
  tr_simple (P := Try.prog) (codes := [(cd (Try.f51.body.getD .skip) [0]), (cd (Try.f51.body.getD .skip) [1, 0]), (cd (Try.f51.body.getD .skip) [1, 1, 0, 0]), (cd (Try.f51.body.getD .skip) [1, 1, 0, 1])]) (N := (fun s w => s51_p1 K (s 2) (s 3) w)) (N' := (s51_p1_den K)) (X := (fun i => (fun _ _ => False))) (X' := (fun i => (fun _ _ => False))) (R := s51_R K) (s := s) (w := w) (p := s51_p2 K (s 0) w) (q := s51_p2_den K s w) (fun s w h => s51_p1_ok K s w @h) (fun i => tr_id) (by kernel_rfl) (by kernel_rfl) @h
/-- the call, from the text -/
theorem c51 (t0 : Value) {K : Value → World → Prop} {w : World} (h : s51_p2 K t0 w) : cl Try.prog 51 #[t0] K w :=
  calls_of_tr (c := (Try.f51.body.getD .skip)) (fn := Try.f51) (q := s51_p2_den K (st0 #[t0]) w) Try.func51 (by kernel_rfl) (by kernel_rfl) (Nat.le_of_ble_eq_true (by kernel_rfl)) (by kernel_rfl) (by kernel_rfl) (s51_p2_ok K (st0 #[t0]) w @h)

/-! ### function 52 : (*e2e.disk.cache).clone -/
def s52_R (K : Value → World → Prop) (s : Nat → Value) (w : World) : Prop := retv Try.prog s Try.f52.results.toList (fun vs => K (pack vs) w) w
def s52_p1 (K : Value → World → Prop) (t2 t3 : Value) (w : World) : Prop :=
  ldn 4 t3 (fun t75 w =>
  stn 4 t2 t75 (fun w =>
  ldn 4 t2 (fun r0 _ =>
  K r0 w) w) w) w
def s52_p1_den (K : Value → World → Prop) : (Nat → Value) → World → Prop := denL Try.prog [(cd (Try.f52.body.getD .skip) [1, 1, 1, 1, 1, 0]), (cd (Try.f52.body.getD .skip) [1, 1, 1, 1, 1, 1])] (fun _ _ => False) (fun i => (fun _ _ => False)) (s52_R K)
theorem s52_p1_ok (K : Value → World → Prop) (s : Nat → Value) (w : World) (h : s52_p1 K (s 2) (s 3) w) : Tr (s52_p1_den K s w) :=
  tr_simple (P := Try.prog) (codes := [(cd (Try.f52.body.getD .skip) [1, 1, 1, 1, 1, 0]), (cd (Try.f52.body.getD .skip) [1, 1, 1, 1, 1, 1])]) (N := (fun _ _ => False)) (N' := (fun _ _ => False)) (X := (fun i => (fun _ _ => False))) (X' := (fun i => (fun _ _ => False))) (R := s52_R K) (s := s) (w := w) (p := s52_p1 K (s 2) (s 3) w) (q := s52_p1_den K s w) tr_id (fun i => tr_id) (by kernel_rfl) (by kernel_rfl) @h
def s52_p2 (K : Value → World → Prop) (B1 : List Value → World → Prop) (t0 t2 t3 t41 t42 : Value) (w : World) : Prop :=
  boI .add t42 (.int .i64 1) (fun t74 w =>
  B1 [t0, t2, t3, t41, t74] w) w
def s52_p2_den (K : Value → World → Prop) (M1 : (Nat → Value) → World → Prop) : (Nat → Value) → World → Prop := denL Try.prog [(cd (Try.f52.body.getD .skip) [1, 1, 1, 1, 0, 1, 0, 0, 1, 1, 1])] M1 (fun i => (bif Nat.beq i 0 then (s52_p1_den K) else (fun _ _ => False))) (s52_R K)
theorem s52_p2_ok (K : Value → World → Prop) (B1 : List Value → World → Prop) (s : Nat → Value) (w : World) (h : s52_p2 K B1 (s 0) (s 2) (s 3) (s 41) (s 42) w) : Tr (s52_p2_den K (fun s w => B1 [s 0, s 2, s 3, s 41, s 42] w) s w) :=
  tr_simple (P := Try.prog) (codes := [(cd (Try.f52.body.getD .skip) [1, 1, 1, 1, 0, 1, 0, 0, 1, 1, 1])]) (N := (fun s w => B1 [s 0, s 2, s 3, s 41, s 42] w)) (N' := (fun s w => B1 [s 0, s 2, s 3, s 41, s 42] w)) (X := (fun i => (bif Nat.beq i 0 then (fun s w => s52_p1 K (s 2) (s 3) w) else (fun _ _ => False)))) (X' := (fun i => (bif Nat.beq i 0 then (s52_p1_den K) else (fun _ _ => False)))) (R := s52_R K) (s := s) (w := w) (p := s52_p2 K B1 (s 0) (s 2) (s 3) (s 41) (s 42) w) (q := s52_p2_den K (fun s w => B1 [s 0, s 2, s 3, s 41, s 42] w) s w) tr_id (fun i => (tr_bif (fun s w h => s52_p1_ok K s w @h) tr_id)) (by kernel_rfl) (by kernel_rfl) @h
def s52_p3_d (K : Value → World → Prop) (B1 : List Value → World → Prop) (t0 t2 t3 t4 t5 t41 t42 : Value) (w0 w : World) : Prop :=
  fd 2 t3 (fun t60 _ =>
  ld1 t60 (fun t61 _ =>
  nck t0 (fun t64 _ =>
  fd 2 t64 (fun t65 _ =>
  ld1 t65 (fun t66 _ =>
  ixs 2 t66 t4 (fun t68 _ =>
  fd 0 t68 (fun t69 _ =>
  ld1 t69 (fun t70 _ =>
  bdq [(.int .i64 0), (.slice none 0 0)] [(some (0, 1), t70), (some (1, 1), t5)] (fun t72 _ =>
  ixs 2 t61 t4 (fun t73 _ =>
  stn 2 t73 t72 (fun w =>
  s52_p2 K B1 t0 t2 t3 t41 t42 w) w) w0) w0) w0) w0) w0) w0) w0) w0) w0) w0
def s52_p3 (K : Value → World → Prop) (B1 : List Value → World → Prop) (t0 t2 t3 t4 t5 t41 t42 : Value) (w : World) : Prop := s52_p3_d K B1 t0 t2 t3 t4 t5 t41 t42 (drw w) (drw w)
def s52_p3_den (K : Value → World → Prop) (M1 : (Nat → Value) → World → Prop) : (Nat → Value) → World → Prop := denL Try.prog [(cd (Try.f52.body.getD .skip) [1, 1, 1, 1, 0, 1, 0, 0, 1, 1, 0, 0, 1, 1, 1])] (s52_p2_den K M1) (fun i => (bif Nat.beq i 1 then (s52_p2_den K M1) else (bif Nat.beq i 0 then (s52_p1_den K) else (fun _ _ => False)))) (s52_R K)
theorem s52_p3_ok (K : Value → World → Prop) (B1 : List Value → World → Prop) (s : Nat → Value) (w : World) (h : s52_p3 K B1 (s 0) (s 2) (s 3) (s 4) (s 5) (s 41) (s 42) w) : Tr (s52_p3_den K (fun s w => B1 [s 0, s 2, s 3, s 41, s 42] w) s w) :=
  tr_draw (P := Try.prog) (ops := (ro (cd (Try.f52.body.getD .skip) [1, 1, 1, 1, 0, 1, 0, 0, 1, 1, 0, 0, 1, 1, 1]))) (ms := [0, 1, 0, 0, 8, 24, 56, 0, 248, 504, 1016, 0, 4088, 8191, 16383]) (cs := [0, 1, 2, 3, 4, 5, 6, 7, 8, 9, 10, 11, 12, 13]) (N := (fun s w => s52_p2 K B1 (s 0) (s 2) (s 3) (s 41) (s 42) w)) (N' := (s52_p2_den K (fun s w => B1 [s 0, s 2, s 3, s 41, s 42] w))) (s := s) (w := w) (p := s52_p3 K B1 (s 0) (s 2) (s 3) (s 4) (s 5) (s 41) (s 42) w) (q := s52_p3_den K (fun s w => B1 [s 0, s 2, s 3, s 41, s 42] w) s w) (by kernel_rfl) (by kernel_rfl) (fun s w h => s52_p2_ok K B1 s w @h) (by kernel_rfl) (by kernel_rfl) @h
def s52_p4 (K : Value → World → Prop) (B1 : List Value → World → Prop) (t0 t2 t3 t41 t42 : Value) (w : World) : Prop :=
  nck t0 (fun t46 w =>
  fd 0 t46 (fun t47 w =>
  ld1 t47 (fun t48 w =>
  mks 5 [(.int .u8 0)] 1 t48 t48 (fun t49 w =>
  nck t0 (fun t52 w =>
  fd 2 t52 (fun t53 w =>
  ld1 t53 (fun t54 w =>
  ixs 2 t54 t42 (fun t56 w =>
  fd 1 t56 (fun t57 w =>
  ld1 t57 (fun t58 w =>
  cpq 1 t49 t58 (fun t59 w =>
  s52_p3 K B1 t0 t2 t3 t42 t49 t41 t42 w) w) w) w) w) w) w) w) w) w) w) w
def s52_p4_den (K : Value → World → Prop) (M1 : (Nat → Value) → World → Prop) : (Nat → Value) → World → Prop := denL Try.prog [(cd (Try.f52.body.getD .skip) [1, 1, 1, 1, 0, 1, 0, 0, 1, 1, 0, 0, 0]), (cd (Try.f52.body.getD .skip) [1, 1, 1, 1, 0, 1, 0, 0, 1, 1, 0, 0, 1, 0]), (cd (Try.f52.body.getD .skip) [1, 1, 1, 1, 0, 1, 0, 0, 1, 1, 0, 0, 1, 1, 0])] (s52_p3_den K M1) (fun i => (bif Nat.beq i 1 then (s52_p2_den K M1) else (bif Nat.beq i 0 then (s52_p1_den K) else (fun _ _ => False)))) (s52_R K)
theorem s52_p4_ok (K : Value → World → Prop) (B1 : List Value → World → Prop) (s : Nat → Value) (w : World) (h : s52_p4 K B1 (s 0) (s 2) (s 3) (s 41) (s 42) w) : Tr (s52_p4_den K (fun s w => B1 [s 0, s 2, s 3, s 41, s 42] w) s w) :=
  tr_simple (P := Try.prog) (codes := [(cd (Try.f52.body.getD .skip) [1, 1, 1, 1, 0, 1, 0, 0, 1, 1, 0, 0, 0]), (cd (Try.f52.body.getD .skip) [1, 1, 1, 1, 0, 1, 0, 0, 1, 1, 0, 0, 1, 0]), (cd (Try.f52.body.getD .skip) [1, 1, 1, 1, 0, 1, 0, 0, 1, 1, 0, 0, 1, 1, 0])]) (N := (fun s w => s52_p3 K B1 (s 0) (s 2) (s 3) (s 4) (s 5) (s 41) (s 42) w)) (N' := (s52_p3_den K (fun s w => B1 [s 0, s 2, s 3, s 41, s 42] w))) (X := (fun i => (bif Nat.beq i 1 then (fun s w => s52_p2 K B1 (s 0) (s 2) (s 3) (s 41) (s 42) w) else (bif Nat.beq i 0 then (fun s w => s52_p1 K (s 2) (s 3) w) else (fun _ _ => False))))) (X' := (fun i => (bif Nat.beq i 1 then (s52_p2_den K (fun s w => B1 [s 0, s 2, s 3, s 41, s 42] w)) else (bif Nat.beq i 0 then (s52_p1_den K) else (fun _ _ => False))))) (R := s52_R K) (s := s) (w := w) (p := s52_p4 K B1 (s 0) (s 2) (s 3) (s 41) (s 42) w) (q := s52_p4_den K (fun s w => B1 [s 0, s 2, s 3, s 41, s 42] w) s w) (fun s w h => s52_p3_ok K B1 s w @h) (fun i => (tr_bif (fun s w h => s52_p2_ok K B1 s w @h) (tr_bif (fun s w h => s52_p1_ok K s w @h) tr_id))) (by kernel_rfl) (by kernel_rfl) @h
def s52_p5 (K : Value → World → Prop) (B1 : List Value → World → Prop) (t0 t2 t3 t41 t42 : Value) (w : World) : Prop :=
  boI .lss t42 t41 (fun t43 w =>
  ifb t43
  (s52_p4 K B1 t0 t2 t3 t41 t42 w)
  (s52_p1 K t2 t3 w)) w
def s52_p5_den (K : Value → World → Prop) (M1 : (Nat → Value) → World → Prop) : (Nat → Value) → World → Prop := denL Try.prog [(cd (Try.f52.body.getD .skip) [1, 1, 1, 1, 0, 1, 0, 0, 0]), (cd (Try.f52.body.getD .skip) [1, 1, 1, 1, 0, 1, 0, 0, 1, 0])] (s52_p4_den K M1) (fun i => (bif Nat.beq i 0 then (s52_p1_den K) else (fun _ _ => False))) (s52_R K)
theorem s52_p5_ok (K : Value → World → Prop) (B1 : List Value → World → Prop) (s : Nat → Value) (w : World) (h : s52_p5 K B1 (s 0) (s 2) (s 3) (s 41) (s 42) w) : Tr (s52_p5_den K (fun s w => B1 [s 0, s 2, s 3, s 41, s 42] w) s w) :=
  tr_simple (P := Try.prog) (codes := [(cd (Try.f52.body.getD .skip) [1, 1, 1, 1, 0, 1, 0, 0, 0]), (cd (Try.f52.body.getD .skip) [1, 1, 1, 1, 0, 1, 0, 0, 1, 0])]) (N := (fun s w => s52_p4 K B1 (s 0) (s 2) (s 3) (s 41) (s 42) w)) (N' := (s52_p4_den K (fun s w => B1 [s 0, s 2, s 3, s 41, s 42] w))) (X := (fun i => (bif Nat.beq i 0 then (fun s w => s52_p1 K (s 2) (s 3) w) else (fun _ _ => False)))) (X' := (fun i => (bif Nat.beq i 0 then (s52_p1_den K) else (fun _ _ => False)))) (R := s52_R K) (s := s) (w := w) (p := s52_p5 K B1 (s 0) (s 2) (s 3) (s 41) (s 42) w) (q := s52_p5_den K (fun s w => B1 [s 0, s 2, s 3, s 41, s 42] w) s w) (fun s w h => s52_p4_ok K B1 s w @h) (fun i => (tr_bif (fun s w h => s52_p1_ok K s w @h) tr_id)) (by kernel_rfl) (by kernel_rfl) @h
def s52_p6_F (K : Value → World → Prop) (B1 : List Value → World → Prop) (l : List Value) (w : World) : Prop :=
  match l with
  | [t0, t2, t3, t41, t42] => s52_p5 K B1 t0 t2 t3 t41 t42 w
  | _ => False
theorem s52_p6_Fe {K : Value → World → Prop} {B1 : List Value → World → Prop} {t0 t2 t3 t41 t42 : Value} {w : World} : s52_p6_F K B1 [t0, t2, t3, t41, t42] w = s52_p5 K B1 t0 t2 t3 t41 t42 w := by kernel_rfl
def s52_p6 (K : Value → World → Prop) (t0 t2 t3 t41 t42 : Value) (w : World) : Prop :=
  LoopL (s52_p6_F K) [t0, t2, t3, t41, t42] w
def s52_p6_den (K : Value → World → Prop) : (Nat → Value) → World → Prop := fun s w => LoopP (fun M1 s w => s52_p5_den K M1 s w) s w
theorem s52_p6_ok (K : Value → World → Prop) (s : Nat → Value) (w : World) (h : s52_p6 K (s 0) (s 2) (s 3) (s 41) (s 42) w) : Tr (s52_p6_den K s w) :=
  tr_loop (G := fun N' s w => s52_p5_den K N' s w) (F := s52_p6_F K) (sel := fun s => [s 0, s 2, s 3, s 41, s 42]) (s := s) (w := w) (p := s52_p6 K (s 0) (s 2) (s 3) (s 41) (s 42) w) (q := s52_p6_den K s w) (fun B s w h => s52_p5_ok K B s w @h) (by kernel_rfl) (by kernel_rfl) @h
def s52_p7 (K : Value → World → Prop) (t0 t2 t3 : Value) (w : World) : Prop :=
  nck t0 (fun t38 w =>
  fd 2 t38 (fun t39 w =>
  ld1 t39 (fun t40 w =>
  lnS t40 (fun t41 w =>
  s52_p6 K t0 t2 t3 t41 (.int .i64 0) w) w) w) w) w
def s52_p7_den (K : Value → World → Prop) : (Nat → Value) → World → Prop := denL Try.prog [(cd (Try.f52.body.getD .skip) [1, 1, 1, 1, 0, 0])] (s52_p6_den K) (fun i => (fun _ _ => False)) (s52_R K)
theorem s52_p7_ok (K : Value → World → Prop) (s : Nat → Value) (w : World) (h : s52_p7 K (s 0) (s 2) (s 3) w) : Tr (s52_p7_den K s w) :=
  tr_simple (P := Try.prog) (codes := [(cd (Try.f52.body.getD .skip) [1, 1, 1, 1, 0, 0])]) (N := (fun s w => s52_p6 K (s 0) (s 2) (s 3) (s 41) (s 42) w)) (N' := (s52_p6_den K)) (X := (fun i => (fun _ _ => False))) (X' := (fun i => (fun _ _ => False))) (R := s52_R K) (s := s) (w := w) (p := s52_p7 K (s 0) (s 2) (s 3) w) (q := s52_p7_den K s w) (fun s w h => s52_p6_ok K s w @h) (fun i => tr_id) (by kernel_rfl) (by kernel_rfl) @h
def s52_p8 (K : Value → World → Prop) (t0 t2 t3 : Value) (w : World) : Prop :=
  nck t0 (fun t25 w =>
  fd 2 t25 (fun t26 w =>
  ld1 t26 (fun t27 w =>
  lnS t27 (fun t28 w =>
  boI .gtr t28 (.int .i64 0) (fun t29 w =>
  ifb t29
  (nck t0 (fun t31 w =>
  fd 2 t31 (fun t32 w =>
  ld1 t32 (fun t33 w =>
  lnS t33 (fun t34 w =>
  mks 100 [(.int .i64 0), (.slice none 0 0)] 32 t34 t34 (fun t35 w =>
  fd 2 t3 (fun t36 w =>
  st1 t36 t35 (fun w =>
  s52_p7 K t0 t2 t3 w) w) w) w) w) w) w) w)
  (s52_p7 K t0 t2 t3 w)) w) w) w) w) w
def s52_p8_den (K : Value → World → Prop) : (Nat → Value) → World → Prop := denL Try.prog [(cd (Try.f52.body.getD .skip) [1, 1, 1, 0, 0]), (cd (Try.f52.body.getD .skip) [1, 1, 1, 0, 1])] (s52_p7_den K) (fun i => (fun _ _ => False)) (s52_R K)
theorem s52_p8_ok (K : Value → World → Prop) (s : Nat → Value) (w : World) (h : s52_p8 K (s 0) (s 2) (s 3) w) : Tr (s52_p8_den K s w) :=
  tr_simple (P := Try.prog) (codes := [(cd (Try.f52.body.getD .skip) [1, 1, 1, 0, 0]), (cd (Try.f52.body.getD .skip) [1, 1, 1, 0, 1])]) (N := (fun s w => s52_p7 K (s 0) (s 2) (s 3) w)) (N' := (s52_p7_den K)) (X := (fun i => (fun _ _ => False))) (X' := (fun i => (fun _ _ => False))) (R := s52_R K) (s := s) (w := w) (p := s52_p8 K (s 0) (s 2) (s 3) w) (q := s52_p8_den K s w) (fun s w h => s52_p7_ok K s w @h) (fun i => tr_id) (by kernel_rfl) (by kernel_rfl) @h
def s52_p9_d (K : Value → World → Prop) (t0 t2 t3 : Value) (w0 w : World) : Prop :=
  fd 1 t3 (fun t17 _ =>
  ld1 t17 (fun t18 _ =>
  nck t0 (fun t20 _ =>
  fd 1 t20 (fun t21 _ =>
  ld1 t21 (fun t22 _ =>
  cpq 1 t18 t22 (fun t23 w =>
  s52_p8 K t0 t2 t3 w) w) w0) w0) w0) w0) w0
def s52_p9 (K : Value → World → Prop) (t0 t2 t3 : Value) (w : World) : Prop := s52_p9_d K t0 t2 t3 (drw w) (drw w)
def s52_p9_den (K : Value → World → Prop) : (Nat → Value) → World → Prop := denL Try.prog [(cd (Try.f52.body.getD .skip) [1, 1, 0])] (s52_p8_den K) (fun i => (fun _ _ => False)) (s52_R K)
theorem s52_p9_ok (K : Value → World → Prop) (s : Nat → Value) (w : World) (h : s52_p9 K (s 0) (s 2) (s 3) w) : Tr (s52_p9_den K s w) :=
  tr_draw (P := Try.prog) (ops := (ro (cd (Try.f52.body.getD .skip) [1, 1, 0]))) (ms := [0, 1, 0, 4, 12, 28, 63]) (cs := [0, 1, 2, 3, 4, 5]) (N := (fun s w => s52_p8 K (s 0) (s 2) (s 3) w)) (N' := (s52_p8_den K)) (s := s) (w := w) (p := s52_p9 K (s 0) (s 2) (s 3) w) (q := s52_p9_den K s w) (by kernel_rfl) (by kernel_rfl) (fun s w h => s52_p8_ok K s w @h) (by kernel_rfl) (by kernel_rfl) @h
def s52_p10_d (K : Value → World → Prop) (t0 t2 : Value) (w0 w : World) : Prop :=
  nck t0 (fun t7 _ =>
  fd 0 t7 (fun t8 _ =>
  ld1 t8 (fun t9 _ =>
  nck t0 (fun t11 _ =>
  fd 1 t11 (fun t12 _ =>
  ld1 t12 (fun t13 _ =>
  lnS t13 (fun t14 _ =>
  (mks 21 [(.int .i32 0)] 4 t14 t14 (fun t15 w =>
  Below w0.heap.size w0 w ∧
  (bdq [(.int .i64 0), (.slice none 0 0), (.slice none 0 0), (.slice none 0 0)] [(some (0, 1), t9), (some (1, 1), t15)] (fun t16 w =>
  nw 87 #[(.int .i64 0), (.slice none 0 0), (.slice none 0 0), (.slice none 0 0)] (fun t3 w =>
  Below w0.heap.size w0 w ∧
  stn 4 t3 t16 (fun w =>
  s52_p9 K t0 t2 t3 w) w) w) w) ∧
  (nw 87 #[(.int .i64 0), (.slice none 0 0), (.slice none 0 0), (.slice none 0 0)] (fun t3_2 w =>
  Below w0.heap.size w0 w ∧
  bdq [(.int .i64 0), (.slice none 0 0), (.slice none 0 0), (.slice none 0 0)] [(some (0, 1), t9), (some (1, 1), t15)] (fun t16_2 w =>
  stn 4 t3_2 t16_2 (fun w =>
  s52_p9 K t0 t2 t3_2 w) w) w) w)) w) ∧
  (nw 87 #[(.int .i64 0), (.slice none 0 0), (.slice none 0 0), (.slice none 0 0)] (fun t3_3 w =>
  Below w0.heap.size w0 w ∧
  mks 21 [(.int .i32 0)] 4 t14 t14 (fun t15_2 w =>
  Below w0.heap.size w0 w ∧
  bdq [(.int .i64 0), (.slice none 0 0), (.slice none 0 0), (.slice none 0 0)] [(some (0, 1), t9), (some (1, 1), t15_2)] (fun t16_3 w =>
  stn 4 t3_3 t16_3 (fun w =>
  s52_p9 K t0 t2 t3_3 w) w) w) w) w)) w0) w0) w0) w0) w0) w0) w0
def s52_p10 (K : Value → World → Prop) (t0 t2 : Value) (w : World) : Prop := s52_p10_d K t0 t2 (drw w) (drw w)
def s52_p10_den (K : Value → World → Prop) : (Nat → Value) → World → Prop := denL Try.prog [(cd (Try.f52.body.getD .skip) [1, 0])] (s52_p9_den K) (fun i => (fun _ _ => False)) (s52_R K)
theorem s52_p10_ok (K : Value → World → Prop) (s : Nat → Value) (w : World) (h : s52_p10 K (s 0) (s 2) w) : Tr (s52_p10_den K s w) :=
  tr_draw (P := Try.prog) (ops := (ro (cd (Try.f52.body.getD .skip) [1, 0]))) (ms := [0, 1, 3, 7, 0, 16, 48, 112, 240, 496, 1023, 0, 4095]) (cs := [0, 1, 2, 3, 4, 5, 6, 7, 8]) (N := (fun s w => s52_p9 K (s 0) (s 2) (s 3) w)) (N' := (s52_p9_den K)) (s := s) (w := w) (p := s52_p10 K (s 0) (s 2) w) (q := s52_p10_den K s w) (by kernel_rfl) (by kernel_rfl) (fun s w h => s52_p9_ok K s w @h) (by kernel_rfl) (by kernel_rfl) @h
def s52_p11 (K : Value → World → Prop) (t0 : Value) (w : World) : Prop :=
  nw 87 #[(.int .i64 0), (.slice none 0 0), (.slice none 0 0), (.slice none 0 0)] (fun t2 w =>
  s52_p10 K t0 t2 w) w
def s52_p11_den (K : Value → World → Prop) : (Nat → Value) → World → Prop := denL Try.prog [(cd (Try.f52.body.getD .skip) [0])] (s52_p10_den K) (fun i => (fun _ _ => False)) (s52_R K)
theorem s52_p11_ok (K : Value → World → Prop) (s : Nat → Value) (w : World) (h : s52_p11 K (s 0) w) : Tr (s52_p11_den K s w) :=
  tr_simple (P := Try.prog) (codes := [(cd (Try.f52.body.getD .skip) [0])]) (N := (fun s w => s52_p10 K (s 0) (s 2) w)) (N' := (s52_p10_den K)) (X := (fun i => (fun _ _ => False))) (X' := (fun i => (fun _ _ => False))) (R := s52_R K) (s := s) (w := w) (p := s52_p11 K (s 0) w) (q := s52_p11_den K s w) (fun s w h => s52_p10_ok K s w @h) (fun i => tr_id) (by kernel_rfl) (by kernel_rfl) @h
/-- the call, from the text -/
theorem c52 (t0 : Value) {K : Value → World → Prop} {w : World} (h : s52_p11 K t0 w) : cl Try.prog 52 #[t0] K w :=
  calls_of_tr (c := (Try.f52.body.getD .skip)) (fn := Try.f52) (q := s52_p11_den K (st0 #[t0]) w) Try.func52 (by kernel_rfl) (by kernel_rfl) (Nat.le_of_ble_eq_true (by kernel_rfl)) (by kernel_rfl) (by kernel_rfl) (s52_p11_ok K (st0 #[t0]) w @h)

/-! ### function 53 : (*e2e.disk.Disk).cut -/
def s53_R (K : Value → World → Prop) (s : Nat → Value) (w : World) : Prop := retv Try.prog s Try.f53.results.toList (fun vs => K (pack vs) w) w
def s53_p1 (K : Value → World → Prop) (t0 : Value) (w : World) : Prop :=
  nck t0 (fun t98 w =>
  fd 3 t98 (fun t99 w =>
  cl Try.prog 56 #[t99] (fun t100 w =>
  bdq [(.int .i64 0), (.slice none 0 0), (.int .i64 0), (.int .i64 0)] [] (fun t102 w =>
  nck t0 (fun t103 w =>
  fd 8 t103 (fun t104 w =>
  stn 4 t104 t102 (fun w =>
  nck t0 (fun t106 w =>
  fd 7 t106 (fun t107 w =>
  st1 t107 (.bool true) (fun w =>
  nck t0 (fun t109 w =>
  fd 12 t109 (fun t110 w =>
  fd 3 t110 (fun t111 w =>
  ld1 t111 (fun t112 w =>
  boI .add t112 (.int .i64 1) (fun t113 w =>
  nck t0 (fun t114 w =>
  fd 12 t114 (fun t115 w =>
  fd 3 t115 (fun t116 w =>
  st1 t116 t113 (fun w =>
  K (.tuple #[]) w) w) w) w) w) w) w) w) w) w) w) w) w) w) w) w) w) w) w) w
def s53_p1_den (K : Value → World → Prop) : (Nat → Value) → World → Prop := denL Try.prog [(cd (Try.f53.body.getD .skip) [1, 1, 1, 0]), (cd (Try.f53.body.getD .skip) [1, 1, 1, 1, 0]), (cd (Try.f53.body.getD .skip) [1, 1, 1, 1, 1, 0]), (cd (Try.f53.body.getD .skip) [1, 1, 1, 1, 1, 1])] (s53_R K) (fun i => (fun _ _ => False)) (s53_R K)
theorem s53_p1_ok (K : Value → World → Prop) (s : Nat → Value) (w : World) (h : s53_p1 K (s 0) w) : Tr (s53_p1_den K s w) :=
  tr_simple (P := Try.prog) (codes := [(cd (Try.f53.body.getD .skip) [1, 1, 1, 0]), (cd (Try.f53.body.getD .skip) [1, 1, 1, 1, 0]), (cd (Try.f53.body.getD .skip) [1, 1, 1, 1, 1, 0]), (cd (Try.f53.body.getD .skip) [1, 1, 1, 1, 1, 1])]) (N := (s53_R K)) (N' := (s53_R K)) (X := (fun i => (fun _ _ => False))) (X' := (fun i => (fun _ _ => False))) (R := s53_R K) (s := s) (w := w) (p := s53_p1 K (s 0) w) (q := s53_p1_den K s w) tr_id (fun i => tr_id) (by kernel_rfl) (by kernel_rfl) @h
def s53_p2_d (K : Value → World → Prop) (t0 t9 t10 t11 : Value) (w0 w : World) : Prop :=
  nck t0 (fun t85 _ =>
  fd 2 t85 (fun t86 _ =>
  ld1 t86 (fun t87 _ =>
  boI .add t11 t10 (fun t91 _ =>
  sls 1 t87 (some t11) (some t91) (fun t92 _ =>
  sls 1 t9 none (some t10) (fun t95 _ =>
  cpq 1 t92 t95 (fun t96 w =>
  s53_p1 K t0 w) w) w0) w0) w0) w0) w0) w0
def s53_p2 (K : Value → World → Prop) (t0 t9 t10 t11 : Value) (w : World) : Prop := s53_p2_d K t0 t9 t10 t11 (drw w) (drw w)
def s53_p2_den (K : Value → World → Prop) : (Nat → Value) → World → Prop := denL Try.prog [(cd (Try.f53.body.getD .skip) [1, 1, 0, 1, 1, 0, 1, 1, 1, 1])] (s53_p1_den K) (fun i => (fun _ _ => False)) (s53_R K)
theorem s53_p2_ok (K : Value → World → Prop) (s : Nat → Value) (w : World) (h : s53_p2 K (s 0) (s 9) (s 10) (s 11) w) : Tr (s53_p2_den K s w) :=
  tr_draw (P := Try.prog) (ops := (ro (cd (Try.f53.body.getD .skip) [1, 1, 0, 1, 1, 0, 1, 1, 1, 1]))) (ms := [0, 1, 3, 7, 0, 0, 0, 96, 255, 0, 0, 1536, 4095]) (cs := [0, 1, 2, 3, 4, 5, 6, 7, 8, 9, 10, 11]) (N := (fun s w => s53_p1 K (s 0) w)) (N' := (s53_p1_den K)) (s := s) (w := w) (p := s53_p2 K (s 0) (s 9) (s 10) (s 11) w) (q := s53_p2_den K s w) (by kernel_rfl) (by kernel_rfl) (fun s w h => s53_p1_ok K s w @h) (by kernel_rfl) (by kernel_rfl) @h
def s53_p3_d (K : Value → World → Prop) (t0 t3 t9 t10 : Value) (w0 w : World) : Prop :=
  nck t0 (fun t76 _ =>
  fd 0 t76 (fun t77 _ =>
  ldn 2 t77 (fun t78 _ =>
  fd 1 t3 (fun t79 _ =>
  ld1 t79 (fun t80 _ =>
  cl Try.prog 55 #[t78, t80] (fun t81 w =>
  (exq t81 0 (fun t82 w =>
  (exq t81 1 (fun t83 w =>
  s53_p2 K t0 t9 t10 t82 w) w) ∧
  (exq t81 1 (fun t83_2 w =>
  s53_p2 K t0 t9 t10 t82 w) w)) w) ∧
  (exq t81 1 (fun t83_3 w =>
  exq t81 0 (fun t82_2 w =>
  s53_p2 K t0 t9 t10 t82_2 w) w) w)) w) w0) w0) w0) w0) w0
def s53_p3 (K : Value → World → Prop) (t0 t3 t9 t10 : Value) (w : World) : Prop := s53_p3_d K t0 t3 t9 t10 (drw w) (drw w)
def s53_p3_den (K : Value → World → Prop) : (Nat → Value) → World → Prop := denL Try.prog [(cd (Try.f53.body.getD .skip) [1, 1, 0, 1, 1, 0, 1, 1, 1, 0])] (s53_p2_den K) (fun i => (fun _ _ => False)) (s53_R K)
theorem s53_p3_ok (K : Value → World → Prop) (s : Nat → Value) (w : World) (h : s53_p3 K (s 0) (s 3) (s 9) (s 10) w) : Tr (s53_p3_den K s w) :=
  tr_draw (P := Try.prog) (ops := (ro (cd (Try.f53.body.getD .skip) [1, 1, 0, 1, 1, 0, 1, 1, 1, 0]))) (ms := [0, 1, 3, 7, 0, 16, 63, 127, 255, 255, 511, 2047]) (cs := [0, 1, 2, 3, 4, 5]) (N := (fun s w => s53_p2 K (s 0) (s 9) (s 10) (s 11) w)) (N' := (s53_p2_den K)) (s := s) (w := w) (p := s53_p3 K (s 0) (s 3) (s 9) (s 10) w) (q := s53_p3_den K s w) (by kernel_rfl) (by kernel_rfl) (fun s w h => s53_p2_ok K s w @h) (by kernel_rfl) (by kernel_rfl) @h
def s53_p4 (K : Value → World → Prop) (t0 t3 t9 t10 : Value) (w : World) : Prop :=
  nck t0 (fun t64 w =>
  fd 0 t64 (fun t65 w =>
  fd 0 t65 (fun t66 w =>
  ld1 t66 (fun t67 w =>
  boI .gtr t10 t67 (fun t68 w =>
  ifb t68
  (nck t0 (fun t70 w =>
  fd 0 t70 (fun t71 w =>
  fd 0 t71 (fun t72 w =>
  ld1 t72 (fun t73 w =>
  s53_p3 K t0 t3 t9 t73 w) w) w) w) w)
  (s53_p3 K t0 t3 t9 t10 w)) w) w) w) w) w
def s53_p4_den (K : Value → World → Prop) : (Nat → Value) → World → Prop := denL Try.prog [(cd (Try.f53.body.getD .skip) [1, 1, 0, 1, 1, 0, 1, 1, 0, 0]), (cd (Try.f53.body.getD .skip) [1, 1, 0, 1, 1, 0, 1, 1, 0, 1])] (s53_p3_den K) (fun i => (fun _ _ => False)) (s53_R K)
theorem s53_p4_ok (K : Value → World → Prop) (s : Nat → Value) (w : World) (h : s53_p4 K (s 0) (s 3) (s 9) (s 10) w) : Tr (s53_p4_den K s w) :=
  tr_simple (P := Try.prog) (codes := [(cd (Try.f53.body.getD .skip) [1, 1, 0, 1, 1, 0, 1, 1, 0, 0]), (cd (Try.f53.body.getD .skip) [1, 1, 0, 1, 1, 0, 1, 1, 0, 1])]) (N := (fun s w => s53_p3 K (s 0) (s 3) (s 9) (s 10) w)) (N' := (s53_p3_den K)) (X := (fun i => (fun _ _ => False))) (X' := (fun i => (fun _ _ => False))) (R := s53_R K) (s := s) (w := w) (p := s53_p4 K (s 0) (s 3) (s 9) (s 10) w) (q := s53_p4_den K s w) (fun s w h => s53_p3_ok K s w @h) (fun i => tr_id) (by kernel_rfl) (by kernel_rfl) @h
def s53_p5 (K : Value → World → Prop) (t0 t3 t9 : Value) (w : World) : Prop :=
  fd 2 t3 (fun t58 w =>
  ld1 t58 (fun t59 w =>
  boI .lss t59 (.int .i64 0) (fun t61 w =>
  ifb t61
  (s53_p4 K t0 t3 t9 (.int .i64 0) w)
  (s53_p4 K t0 t3 t9 t59 w)) w) w) w
def s53_p5_den (K : Value → World → Prop) : (Nat → Value) → World → Prop := denL Try.prog [(cd (Try.f53.body.getD .skip) [1, 1, 0, 1, 1, 0, 0]), (cd (Try.f53.body.getD .skip) [1, 1, 0, 1, 1, 0, 1, 0, 0]), (cd (Try.f53.body.getD .skip) [1, 1, 0, 1, 1, 0, 1, 0, 1])] (s53_p4_den K) (fun i => (fun _ _ => False)) (s53_R K)
theorem s53_p5_ok (K : Value → World → Prop) (s : Nat → Value) (w : World) (h : s53_p5 K (s 0) (s 3) (s 9) w) : Tr (s53_p5_den K s w) :=
  tr_simple (P := Try.prog) (codes := [(cd (Try.f53.body.getD .skip) [1, 1, 0, 1, 1, 0, 0]), (cd (Try.f53.body.getD .skip) [1, 1, 0, 1, 1, 0, 1, 0, 0]), (cd (Try.f53.body.getD .skip) [1, 1, 0, 1, 1, 0, 1, 0, 1])]) (N := (fun s w => s53_p4 K (s 0) (s 3) (s 9) (s 10) w)) (N' := (s53_p4_den K)) (X := (fun i => (fun _ _ => False))) (X' := (fun i => (fun _ _ => False))) (R := s53_R K) (s := s) (w := w) (p := s53_p5 K (s 0) (s 3) (s 9) w) (q := s53_p5_den K s w) (fun s w h => s53_p4_ok K s w @h) (fun i => tr_id) (by kernel_rfl) (by kernel_rfl) @h
def s53_p6 (K : Value → World → Prop) (t0 t3 t9 t57 : Value) (w : World) : Prop :=
  ifb t57
  (s53_p5 K t0 t3 t9 w)
  (s53_p1 K t0 w)
def s53_p6_den (K : Value → World → Prop) : (Nat → Value) → World → Prop := fun s w => ifb (ev s (.tmp 57)) ((s53_p5_den K) s w) ((s53_p1_den K) s w)
theorem s53_p6_ok (K : Value → World → Prop) (s : Nat → Value) (w : World) (h : s53_p6 K (s 0) (s 3) (s 9) (s 57) w) : Tr (s53_p6_den K s w) :=
  tr_cond (v := ev s (.tmp 57)) (a := (fun s w => s53_p5 K (s 0) (s 3) (s 9) w) s w) (a' := (s53_p5_den K) s w) (b := (fun s w => s53_p1 K (s 0) w) s w) (b' := (s53_p1_den K) s w) (p := s53_p6 K (s 0) (s 3) (s 9) (s 57) w) (q := s53_p6_den K s w) ((fun s w h => s53_p5_ok K s w @h) s w) ((fun s w h => s53_p1_ok K s w @h) s w) (by kernel_rfl) (by kernel_rfl) @h
def s53_p7 (K : Value → World → Prop) (t0 t3 t9 : Value) (w : World) : Prop :=
  boZ .neq t9 (.slice none 0 0) (fun t57 w =>
  s53_p6 K t0 t3 t9 t57 w) w
def s53_p7_den (K : Value → World → Prop) : (Nat → Value) → World → Prop := denL Try.prog [(cd (Try.f53.body.getD .skip) [1, 1, 0, 1, 0])] (s53_p6_den K) (fun i => (fun _ _ => False)) (s53_R K)
theorem s53_p7_ok (K : Value → World → Prop) (s : Nat → Value) (w : World) (h : s53_p7 K (s 0) (s 3) (s 9) w) : Tr (s53_p7_den K s w) :=
  tr_simple (P := Try.prog) (codes := [(cd (Try.f53.body.getD .skip) [1, 1, 0, 1, 0])]) (N := (fun s w => s53_p6 K (s 0) (s 3) (s 9) (s 57) w)) (N' := (s53_p6_den K)) (X := (fun i => (fun _ _ => False))) (X' := (fun i => (fun _ _ => False))) (R := s53_R K) (s := s) (w := w) (p := s53_p7 K (s 0) (s 3) (s 9) w) (q := s53_p7_den K s w) (fun s w h => s53_p6_ok K s w @h) (fun i => tr_id) (by kernel_rfl) (by kernel_rfl) @h
def s53_p8_d (K : Value → World → Prop) (t0 t3 : Value) (w0 w : World) : Prop :=
  nck t0 (fun t51 _ =>
  fd 3 t51 (fun t52 _ =>
  fd 1 t3 (fun t53 _ =>
  ld1 t53 (fun t54 _ =>
  cl Try.prog 62 #[t52, t54] (fun t55 w =>
  s53_p7 K t0 t3 t55 w) w) w0) w0) w0) w0
def s53_p8 (K : Value → World → Prop) (t0 t3 : Value) (w : World) : Prop := s53_p8_d K t0 t3 (drw w) (drw w)
def s53_p8_den (K : Value → World → Prop) : (Nat → Value) → World → Prop := denL Try.prog [(cd (Try.f53.body.getD .skip) [1, 1, 0, 0])] (s53_p7_den K) (fun i => (fun _ _ => False)) (s53_R K)
theorem s53_p8_ok (K : Value → World → Prop) (s : Nat → Value) (w : World) (h : s53_p8 K (s 0) (s 3) w) : Tr (s53_p8_den K s w) :=
  tr_draw (P := Try.prog) (ops := (ro (cd (Try.f53.body.getD .skip) [1, 1, 0, 0]))) (ms := [0, 1, 3, 0, 8, 31, 63]) (cs := [0, 1, 2, 3, 4]) (N := (fun s w => s53_p7 K (s 0) (s 3) (s 9) w)) (N' := (s53_p7_den K)) (s := s) (w := w) (p := s53_p8 K (s 0) (s 3) w) (q := s53_p8_den K s w) (by kernel_rfl) (by kernel_rfl) (fun s w h => s53_p7_ok K s w @h) (by kernel_rfl) (by kernel_rfl) @h
def s53_p9 (K : Value → World → Prop) (B1 : List Value → World → Prop) (t0 t3 t14 t15 t16 : Value) (w : World) : Prop :=
  boI .add t16 (.int .i64 1) (fun t49 w =>
  B1 [t0, t3, t14, t15, t49] w) w
def s53_p9_den (K : Value → World → Prop) (M1 : (Nat → Value) → World → Prop) : (Nat → Value) → World → Prop := denL Try.prog [(cd (Try.f53.body.getD .skip) [1, 0, 1, 0, 0, 1, 1, 1])] M1 (fun i => (bif Nat.beq i 0 then (s53_p8_den K) else (fun _ _ => False))) (s53_R K)
theorem s53_p9_ok (K : Value → World → Prop) (B1 : List Value → World → Prop) (s : Nat → Value) (w : World) (h : s53_p9 K B1 (s 0) (s 3) (s 14) (s 15) (s 16) w) : Tr (s53_p9_den K (fun s w => B1 [s 0, s 3, s 14, s 15, s 16] w) s w) :=
  tr_simple (P := Try.prog) (codes := [(cd (Try.f53.body.getD .skip) [1, 0, 1, 0, 0, 1, 1, 1])]) (N := (fun s w => B1 [s 0, s 3, s 14, s 15, s 16] w)) (N' := (fun s w => B1 [s 0, s 3, s 14, s 15, s 16] w)) (X := (fun i => (bif Nat.beq i 0 then (fun s w => s53_p8 K (s 0) (s 3) w) else (fun _ _ => False)))) (X' := (fun i => (bif Nat.beq i 0 then (s53_p8_den K) else (fun _ _ => False)))) (R := s53_R K) (s := s) (w := w) (p := s53_p9 K B1 (s 0) (s 3) (s 14) (s 15) (s 16) w) (q := s53_p9_den K (fun s w => B1 [s 0, s 3, s 14, s 15, s 16] w) s w) tr_id (fun i => (tr_bif (fun s w h => s53_p8_ok K s w @h) tr_id)) (by kernel_rfl) (by kernel_rfl) @h
def s53_p10 (K : Value → World → Prop) (B1 : List Value → World → Prop) (t0 t3 t14 t15 t16 : Value) (w : World) : Prop :=
  boI .lss t16 t15 (fun t17 w =>
  ifb t17
  (ixs 1 t14 t16 (fun t18 w =>
  ld1 t18 (fun t19 w =>
  fd 1 t3 (fun t21 w =>
  ld1 t21 (fun t22 w =>
  boI .eql t19 t22 (fun t23 w =>
  ifb t23
  (s53_p9 K B1 t0 t3 t14 t15 t16 w)
  (nck t0 (fun t25 w =>
  fd 3 t25 (fun t26 w =>
  cl Try.prog 62 #[t26, t19] (fun t28 w =>
  boZ .neq t28 (.slice none 0 0) (fun t30 w =>
  ifb t30
  (nck t0 (fun t33 w =>
  fd 0 t33 (fun t34 w =>
  ldn 2 t34 (fun t35 w =>
  cl Try.prog 55 #[t35, t19] (fun t37 w =>
  exq t37 0 (fun t38 w =>
  exq t37 1 (fun t39 w =>
  nck t0 (fun t41 w =>
  fd 2 t41 (fun t42 w =>
  ld1 t42 (fun t43 w =>
  sls 1 t43 (some t38) (some t39) (fun t46 w =>
  cpq 1 t46 t28 (fun t48 w =>
  s53_p9 K B1 t0 t3 t14 t15 t16 w) w) w) w) w) w) w) w) w) w) w) w)
  (s53_p9 K B1 t0 t3 t14 t15 t16 w)) w) w) w) w)) w) w) w) w) w)
  (s53_p8 K t0 t3 w)) w
def s53_p10_den (K : Value → World → Prop) (M1 : (Nat → Value) → World → Prop) : (Nat → Value) → World → Prop := denL Try.prog [(cd (Try.f53.body.getD .skip) [1, 0, 1, 0, 0, 0]), (cd (Try.f53.body.getD .skip) [1, 0, 1, 0, 0, 1, 0]), (cd (Try.f53.body.getD .skip) [1, 0, 1, 0, 0, 1, 1, 0])] (s53_p9_den K M1) (fun i => (bif Nat.beq i 0 then (s53_p8_den K) else (fun _ _ => False))) (s53_R K)
theorem s53_p10_ok (K : Value → World → Prop) (B1 : List Value → World → Prop) (s : Nat → Value) (w : World) (h : s53_p10 K B1 (s 0) (s 3) (s 14) (s 15) (s 16) w) : Tr (s53_p10_den K (fun s w => B1 [s 0, s 3, s 14, s 15, s 16] w) s w) :=
  tr_simple (P := Try.prog) (codes := [(cd (Try.f53.body.getD .skip) [1, 0, 1, 0, 0, 0]), (cd (Try.f53.body.getD .skip) [1, 0, 1, 0, 0, 1, 0]), (cd (Try.f53.body.getD .skip) [1, 0, 1, 0, 0, 1, 1, 0])]) (N := (fun s w => s53_p9 K B1 (s 0) (s 3) (s 14) (s 15) (s 16) w)) (N' := (s53_p9_den K (fun s w => B1 [s 0, s 3, s 14, s 15, s 16] w))) (X := (fun i => (bif Nat.beq i 0 then (fun s w => s53_p8 K (s 0) (s 3) w) else (fun _ _ => False)))) (X' := (fun i => (bif Nat.beq i 0 then (s53_p8_den K) else (fun _ _ => False)))) (R := s53_R K) (s := s) (w := w) (p := s53_p10 K B1 (s 0) (s 3) (s 14) (s 15) (s 16) w) (q := s53_p10_den K (fun s w => B1 [s 0, s 3, s 14, s 15, s 16] w) s w) (fun s w h => s53_p9_ok K B1 s w @h) (fun i => (tr_bif (fun s w h => s53_p8_ok K s w @h) tr_id)) (by kernel_rfl) (by kernel_rfl) @h
def s53_p11_F (K : Value → World → Prop) (B1 : List Value → World → Prop) (l : List Value) (w : World) : Prop :=
  match l with
  | [t0, t3, t14, t15, t16] => s53_p10 K B1 t0 t3 t14 t15 t16 w
  | _ => False
theorem s53_p11_Fe {K : Value → World → Prop} {B1 : List Value → World → Prop} {t0 t3 t14 t15 t16 : Value} {w : World} : s53_p11_F K B1 [t0, t3, t14, t15, t16] w = s53_p10 K B1 t0 t3 t14 t15 t16 w := by kernel_rfl
def s53_p11 (K : Value → World → Prop) (t0 t3 t14 t15 t16 : Value) (w : World) : Prop :=
  LoopL (s53_p11_F K) [t0, t3, t14, t15, t16] w
def s53_p11_den (K : Value → World → Prop) : (Nat → Value) → World → Prop := fun s w => LoopP (fun M1 s w => s53_p10_den K M1 s w) s w
theorem s53_p11_ok (K : Value → World → Prop) (s : Nat → Value) (w : World) (h : s53_p11 K (s 0) (s 3) (s 14) (s 15) (s 16) w) : Tr (s53_p11_den K s w) :=
  tr_loop (G := fun N' s w => s53_p10_den K N' s w) (F := s53_p11_F K) (sel := fun s => [s 0, s 3, s 14, s 15, s 16]) (s := s) (w := w) (p := s53_p11 K (s 0) (s 3) (s 14) (s 15) (s 16) w) (q := s53_p11_den K s w) (fun B s w h => s53_p10_ok K B s w @h) (by kernel_rfl) (by kernel_rfl) @h
def s53_p12 (K : Value → World → Prop) (t0 t1 : Value) (w : World) : Prop :=
  nw 32 (t1).cells (fun t3 w =>
  fd 0 t3 (fun t13 w =>
  ld1 t13 (fun t14 w =>
  lnS t14 (fun t15 w =>
  s53_p11 K t0 t3 t14 t15 (.int .i64 0) w) w) w) w) w
def s53_p12_den (K : Value → World → Prop) : (Nat → Value) → World → Prop := denL Try.prog [(cd (Try.f53.body.getD .skip) [0]), (cd (Try.f53.body.getD .skip) [1, 0, 0])] (s53_p11_den K) (fun i => (fun _ _ => False)) (s53_R K)
theorem s53_p12_ok (K : Value → World → Prop) (s : Nat → Value) (w : World) (h : s53_p12 K (s 0) (s 1) w) : Tr (s53_p12_den K s w) :=
  tr_simple (P := Try.prog) (codes := [(cd (Try.f53.body.getD .skip) [0]), (cd (Try.f53.body.getD .skip) [1, 0, 0])]) (N := (fun s w => s53_p11 K (s 0) (s 3) (s 14) (s 15) (s 16) w)) (N' := (s53_p11_den K)) (X := (fun i => (fun _ _ => False))) (X' := (fun i => (fun _ _ => False))) (R := s53_R K) (s := s) (w := w) (p := s53_p12 K (s 0) (s 1) w) (q := s53_p12_den K s w) (fun s w h => s53_p11_ok K s w @h) (fun i => tr_id) (by kernel_rfl) (by kernel_rfl) @h
/-- the call, from the text -/
theorem c53 (t0 t1 : Value) {K : Value → World → Prop} {w : World} (h : s53_p12 K t0 t1 w) : cl Try.prog 53 #[t0, t1] K w :=
  calls_of_tr (c := (Try.f53.body.getD .skip)) (fn := Try.f53) (q := s53_p12_den K (st0 #[t0, t1]) w) Try.func53 (by kernel_rfl) (by kernel_rfl) (Nat.le_of_ble_eq_true (by kernel_rfl)) (by kernel_rfl) (by kernel_rfl) (s53_p12_ok K (st0 #[t0, t1]) w @h)

/-! ### function 54 : (*e2e.disk.Disk).burn -/
def s54_R (K : Value → World → Prop) (s : Nat → Value) (w : World) : Prop := retv Try.prog s Try.f54.results.toList (fun vs => K (pack vs) w) w
def s54_p1 (K : Value → World → Prop) (t0 : Value) (w : World) : Prop :=
  nck t0 (fun t4 w =>
  fd 8 t4 (fun t5 w =>
  fd 0 t5 (fun t6 w =>
  ld1 t6 (fun t7 w =>
  boI .eql t7 (.int .i64 0) (fun t8 w =>
  ifb t8
  (K (.bool false) w)
  (nck t0 (fun t10 w =>
  fd 8 t10 (fun t11 w =>
  fd 0 t11 (fun t12 w =>
  ld1 t12 (fun t13 w =>
  boI .sub t13 (.int .i64 1) (fun t14 w =>
  nck t0 (fun t15 w =>
  fd 8 t15 (fun t16 w =>
  fd 0 t16 (fun t17 w =>
  st1 t17 t14 (fun w =>
  nck t0 (fun t19 w =>
  fd 8 t19 (fun t20 w =>
  fd 0 t20 (fun t21 w =>
  ld1 t21 (fun t22 w =>
  boI .gtr t22 (.int .i64 0) (fun t23 w =>
  ifb t23
  (K (.bool false) w)
  (nck t0 (fun t26 w =>
  fd 8 t26 (fun t27 w =>
  fd 1 t27 (fun t28 w =>
  ldn 3 t28 (fun t29 w =>
  cl Try.prog 53 #[t0, t29] (fun t30 w =>
  K (.bool true) w) w) w) w) w) w)) w) w) w) w) w) w) w) w) w) w) w) w) w) w)) w) w) w) w) w
def s54_p1_den (K : Value → World → Prop) : (Nat → Value) → World → Prop := denL Try.prog [(cd (Try.f54.body.getD .skip) [0]), (cd (Try.f54.body.getD .skip) [1, 0, 0]), (cd (Try.f54.body.getD .skip) [1, 0, 1]), (cd (Try.f54.body.getD .skip) [1, 1, 0]), (cd (Try.f54.body.getD .skip) [1, 1, 1, 0, 0]), (cd (Try.f54.body.getD .skip) [1, 1, 1, 0, 1]), (cd (Try.f54.body.getD .skip) [1, 1, 1, 1, 0]), (cd (Try.f54.body.getD .skip) [1, 1, 1, 1, 1, 0]), (cd (Try.f54.body.getD .skip) [1, 1, 1, 1, 1, 1])] (fun _ _ => False) (fun i => (fun _ _ => False)) (s54_R K)
theorem s54_p1_ok (K : Value → World → Prop) (s : Nat → Value) (w : World) (h : s54_p1 K (s 0) w) : Tr (s54_p1_den K s w) :=
  tr_simple (P := Try.prog) (codes := [(cd (Try.f54.body.getD .skip) [0]), (cd (Try.f54.body.getD .skip) [1, 0, 0]), (cd (Try.f54.body.getD .skip) [1, 0, 1]), (cd (Try.f54.body.getD .skip) [1, 1, 0]), (cd (Try.f54.body.getD .skip) [1, 1, 1, 0, 0]), (cd (Try.f54.body.getD .skip) [1, 1, 1, 0, 1]), (cd (Try.f54.body.getD .skip) [1, 1, 1, 1, 0]), (cd (Try.f54.body.getD .skip) [1, 1, 1, 1, 1, 0]), (cd (Try.f54.body.getD .skip) [1, 1, 1, 1, 1, 1])]) (N := (fun _ _ => False)) (N' := (fun _ _ => False)) (X := (fun i => (fun _ _ => False))) (X' := (fun i => (fun _ _ => False))) (R := s54_R K) (s := s) (w := w) (p := s54_p1 K (s 0) w) (q := s54_p1_den K s w) tr_id (fun i => tr_id) (by kernel_rfl) (by kernel_rfl) @h
/-- the call, from the text -/
theorem c54 (t0 : Value) {K : Value → World → Prop} {w : World} (h : s54_p1 K t0 w) : cl Try.prog 54 #[t0] K w :=
  calls_of_tr (c := (Try.f54.body.getD .skip)) (fn := Try.f54) (q := s54_p1_den K (st0 #[t0]) w) Try.func54 (by kernel_rfl) (by kernel_rfl) (Nat.le_of_ble_eq_true (by kernel_rfl)) (by kernel_rfl) (by kernel_rfl) (s54_p1_ok K (st0 #[t0]) w @h)

/-! ### function 55 : (e2e.disk.Geometry).span -/
def s55_R (K : Value → World → Prop) (s : Nat → Value) (w : World) : Prop := retv Try.prog s Try.f55.results.toList (fun vs => K (pack vs) w) w
def s55_p1 (K : Value → World → Prop) (t4 t5 : Value) (w : World) : Prop :=
  K (.tuple #[t4, t5]) w
def s55_p1_den (K : Value → World → Prop) : (Nat → Value) → World → Prop := denL Try.prog [(cd (Try.f55.body.getD .skip) [1, 1, 1])] (fun _ _ => False) (fun i => (fun _ _ => False)) (s55_R K)
theorem s55_p1_ok (K : Value → World → Prop) (s : Nat → Value) (w : World) (h : s55_p1 K (s 4) (s 5) w) : Tr (s55_p1_den K s w) :=
  tr_simple (P := Try.prog) (codes := [(cd (Try.f55.body.getD .skip) [1, 1, 1])]) (N := (fun _ _ => False)) (N' := (fun _ _ => False)) (X := (fun i => (fun _ _ => False))) (X' := (fun i => (fun _ _ => False))) (R := s55_R K) (s := s) (w := w) (p := s55_p1 K (s 4) (s 5) w) (q := s55_p1_den K s w) tr_id (fun i => tr_id) (by kernel_rfl) (by kernel_rfl) @h
def s55_p2_d (K : Value → World → Prop) (t2 t4 : Value) (w0 w : World) : Prop :=
  fd 0 t2 (fun t12 _ =>
  ld1 t12 (fun t13 _ =>
  (Below w0.heap.size w0 w ∧
  Below w0.heap.size w0 w ∧
  (boI .add t4 t13 (fun t14 w =>
  Below w0.heap.size w0 w ∧
  s55_p1 K t4 t14 w) w) ∧
  (Below w0.heap.size w0 w ∧
  boI .add t4 t13 (fun t14_2 w =>
  s55_p1 K t4 t14_2 w) w)) ∧
  (Below w0.heap.size w0 w ∧
  (Below w0.heap.size w0 w ∧
  (boI .add t4 t13 (fun t14_3 w =>
  Below w0.heap.size w0 w ∧
  s55_p1 K t4 t14_3 w) w) ∧
  (Below w0.heap.size w0 w ∧
  boI .add t4 t13 (fun t14_4 w =>
  s55_p1 K t4 t14_4 w) w)) ∧
  (boI .add t4 t13 (fun t14_5 w =>
  Below w0.heap.size w0 w ∧
  Below w0.heap.size w0 w ∧
  s55_p1 K t4 t14_5 w) w))) w0) w0
def s55_p2 (K : Value → World → Prop) (t2 t4 : Value) (w : World) : Prop := s55_p2_d K t2 t4 (drw w) (drw w)
def s55_p2_den (K : Value → World → Prop) : (Nat → Value) → World → Prop := denL Try.prog [(cd (Try.f55.body.getD .skip) [1, 1, 0])] (s55_p1_den K) (fun i => (fun _ _ => False)) (s55_R K)
theorem s55_p2_ok (K : Value → World → Prop) (s : Nat → Value) (w : World) (h : s55_p2 K (s 2) (s 4) w) : Tr (s55_p2_den K s w) :=
  tr_draw (P := Try.prog) (ops := (ro (cd (Try.f55.body.getD .skip) [1, 1, 0]))) (ms := [0, 0, 0, 4, 14, 3, 63]) (cs := [2, 3]) (N := (fun s w => s55_p1 K (s 4) (s 5) w)) (N' := (s55_p1_den K)) (s := s) (w := w) (p := s55_p2 K (s 2) (s 4) w) (q := s55_p2_den K s w) (by kernel_rfl) (by kernel_rfl) (fun s w h => s55_p1_ok K s w @h) (by kernel_rfl) (by kernel_rfl) @h
def s55_p3 (K : Value → World → Prop) (t0 t1 : Value) (w : World) : Prop :=
  nw 65 (t0).cells (fun t2 w =>
  fd 0 t2 (fun t7 w =>
  ld1 t7 (fun t8 w =>
  boI .mul t1 t8 (fun t9 w =>
  s55_p2 K t2 t9 w) w) w) w) w
def s55_p3_den (K : Value → World → Prop) : (Nat → Value) → World → Prop := denL Try.prog [(cd (Try.f55.body.getD .skip) [0]), (cd (Try.f55.body.getD .skip) [1, 0])] (s55_p2_den K) (fun i => (fun _ _ => False)) (s55_R K)
theorem s55_p3_ok (K : Value → World → Prop) (s : Nat → Value) (w : World) (h : s55_p3 K (s 0) (s 1) w) : Tr (s55_p3_den K s w) :=
  tr_simple (P := Try.prog) (codes := [(cd (Try.f55.body.getD .skip) [0]), (cd (Try.f55.body.getD .skip) [1, 0])]) (N := (fun s w => s55_p2 K (s 2) (s 4) w)) (N' := (s55_p2_den K)) (X := (fun i => (fun _ _ => False))) (X' := (fun i => (fun _ _ => False))) (R := s55_R K) (s := s) (w := w) (p := s55_p3 K (s 0) (s 1) w) (q := s55_p3_den K s w) (fun s w h => s55_p2_ok K s w @h) (fun i => tr_id) (by kernel_rfl) (by kernel_rfl) @h
/-- the call, from the text -/
theorem c55 (t0 t1 : Value) {K : Value → World → Prop} {w : World} (h : s55_p3 K t0 t1 w) : cl Try.prog 55 #[t0, t1] K w :=
  calls_of_tr (c := (Try.f55.body.getD .skip)) (fn := Try.f55) (q := s55_p3_den K (st0 #[t0, t1]) w) Try.func55 (by kernel_rfl) (by kernel_rfl) (Nat.le_of_ble_eq_true (by kernel_rfl)) (by kernel_rfl) (by kernel_rfl) (s55_p3_ok K (st0 #[t0, t1]) w @h)

/-! ### function 56 : (*e2e.disk.cache).drop -/
def s56_R (K : Value → World → Prop) (s : Nat → Value) (w : World) : Prop := retv Try.prog s Try.f56.results.toList (fun vs => K (pack vs) w) w
def s56_p1 (K : Value → World → Prop) (t0 : Value) (w : World) : Prop :=
  nck t0 (fun t51 w =>
  fd 2 t51 (fun t52 w =>
  ld1 t52 (fun t53 w =>
  sls 2 t53 none (some (.int .i64 0)) (fun t54 w =>
  nck t0 (fun t55 w =>
  fd 2 t55 (fun t56 w =>
  st1 t56 t54 (fun w =>
  K (.tuple #[]) w) w) w) w) w) w) w) w
def s56_p1_den (K : Value → World → Prop) : (Nat → Value) → World → Prop := denL Try.prog [(cd (Try.f56.body.getD .skip) [1])] (s56_R K) (fun i => (fun _ _ => False)) (s56_R K)
theorem s56_p1_ok (K : Value → World → Prop) (s : Nat → Value) (w : World) (h : s56_p1 K (s 0) w) : Tr (s56_p1_den K s w) :=
  tr_simple (P := Try.prog) (codes := [(cd (Try.f56.body.getD .skip) [1])]) (N := (s56_R K)) (N' := (s56_R K)) (X := (fun i => (fun _ _ => False))) (X' := (fun i => (fun _ _ => False))) (R := s56_R K) (s := s) (w := w) (p := s56_p1 K (s 0) w) (q := s56_p1_den K s w) tr_id (fun i => tr_id) (by kernel_rfl) (by kernel_rfl) @h
def s56_p2 (K : Value → World → Prop) (B1 : List Value → World → Prop) (t0 t7 t8 : Value) (w : World) : Prop :=
  boI .add t8 (.int .i64 1) (fun t48 w =>
  B1 [t0, t7, t48] w) w
def s56_p2_den (K : Value → World → Prop) (M1 : (Nat → Value) → World → Prop) : (Nat → Value) → World → Prop := denL Try.prog [(cd (Try.f56.body.getD .skip) [0, 1, 0, 0, 1, 1, 1])] M1 (fun i => (bif Nat.beq i 0 then (s56_p1_den K) else (fun _ _ => False))) (s56_R K)
theorem s56_p2_ok (K : Value → World → Prop) (B1 : List Value → World → Prop) (s : Nat → Value) (w : World) (h : s56_p2 K B1 (s 0) (s 7) (s 8) w) : Tr (s56_p2_den K (fun s w => B1 [s 0, s 7, s 8] w) s w) :=
  tr_simple (P := Try.prog) (codes := [(cd (Try.f56.body.getD .skip) [0, 1, 0, 0, 1, 1, 1])]) (N := (fun s w => B1 [s 0, s 7, s 8] w)) (N' := (fun s w => B1 [s 0, s 7, s 8] w)) (X := (fun i => (bif Nat.beq i 0 then (fun s w => s56_p1 K (s 0) w) else (fun _ _ => False)))) (X' := (fun i => (bif Nat.beq i 0 then (s56_p1_den K) else (fun _ _ => False)))) (R := s56_R K) (s := s) (w := w) (p := s56_p2 K B1 (s 0) (s 7) (s 8) w) (q := s56_p2_den K (fun s w => B1 [s 0, s 7, s 8] w) s w) tr_id (fun i => (tr_bif (fun s w h => s56_p1_ok K s w @h) tr_id)) (by kernel_rfl) (by kernel_rfl) @h
def s56_p3 (K : Value → World → Prop) (B1 : List Value → World → Prop) (t0 t2 t7 t8 : Value) (w : World) : Prop :=
  nck t0 (fun t42 w =>
  fd 2 t42 (fun t43 w =>
  ld1 t43 (fun t44 w =>
  bdq [(.int .i64 0), (.slice none 0 0)] [] (fun t46 w =>
  ixs 2 t44 t2 (fun t47 w =>
  stn 2 t47 t46 (fun w =>
  s56_p2 K B1 t0 t7 t8 w) w) w) w) w) w) w
def s56_p3_den (K : Value → World → Prop) (M1 : (Nat → Value) → World → Prop) : (Nat → Value) → World → Prop := denL Try.prog [(cd (Try.f56.body.getD .skip) [0, 1, 0, 0, 1, 1, 0, 0, 1, 1, 1])] (s56_p2_den K M1) (fun i => (bif Nat.beq i 1 then (s56_p2_den K M1) else (bif Nat.beq i 0 then (s56_p1_den K) else (fun _ _ => False)))) (s56_R K)
theorem s56_p3_ok (K : Value → World → Prop) (B1 : List Value → World → Prop) (s : Nat → Value) (w : World) (h : s56_p3 K B1 (s 0) (s 2) (s 7) (s 8) w) : Tr (s56_p3_den K (fun s w => B1 [s 0, s 7, s 8] w) s w) :=
  tr_simple (P := Try.prog) (codes := [(cd (Try.f56.body.getD .skip) [0, 1, 0, 0, 1, 1, 0, 0, 1, 1, 1])]) (N := (fun s w => s56_p2 K B1 (s 0) (s 7) (s 8) w)) (N' := (s56_p2_den K (fun s w => B1 [s 0, s 7, s 8] w))) (X := (fun i => (bif Nat.beq i 1 then (fun s w => s56_p2 K B1 (s 0) (s 7) (s 8) w) else (bif Nat.beq i 0 then (fun s w => s56_p1 K (s 0) w) else (fun _ _ => False))))) (X' := (fun i => (bif Nat.beq i 1 then (s56_p2_den K (fun s w => B1 [s 0, s 7, s 8] w)) else (bif Nat.beq i 0 then (s56_p1_den K) else (fun _ _ => False))))) (R := s56_R K) (s := s) (w := w) (p := s56_p3 K B1 (s 0) (s 2) (s 7) (s 8) w) (q := s56_p3_den K (fun s w => B1 [s 0, s 7, s 8] w) s w) (fun s w h => s56_p2_ok K B1 s w @h) (fun i => (tr_bif (fun s w h => s56_p2_ok K B1 s w @h) (tr_bif (fun s w h => s56_p1_ok K s w @h) tr_id))) (by kernel_rfl) (by kernel_rfl) @h
def s56_p4_d (K : Value → World → Prop) (B1 : List Value → World → Prop) (t0 t2 t7 t8 : Value) (w0 w : World) : Prop :=
  nck t0 (fun t26 _ =>
  fd 3 t26 (fun t27 _ =>
  ld1 t27 (fun t28 _ =>
  nck t0 (fun t30 _ =>
  fd 2 t30 (fun t31 _ =>
  ld1 t31 (fun t32 _ =>
  ixs 2 t32 t2 (fun t34 _ =>
  fd 1 t34 (fun t35 _ =>
  ld1 t35 (fun t36 _ =>
  nck t0 (fun t39 _ =>
  fd 3 t39 (fun t40 _ =>
  bsq 29 [(.slice none 0 0)] 1 [(some (0, 1), t36)] (fun t37 w =>
  Below w0.heap.size w0 w ∧
  apq 29 [(.slice none 0 0)] 24 t28 t37 (fun t38 w =>
  st1 t40 t38 (fun w =>
  s56_p3 K B1 t0 t2 t7 t8 w) w) w) w) w0) w0) w0) w0) w0) w0) w0) w0) w0) w0) w0
def s56_p4 (K : Value → World → Prop) (B1 : List Value → World → Prop) (t0 t2 t7 t8 : Value) (w : World) : Prop := s56_p4_d K B1 t0 t2 t7 t8 (drw w) (drw w)
def s56_p4_den (K : Value → World → Prop) (M1 : (Nat → Value) → World → Prop) : (Nat → Value) → World → Prop := denL Try.prog [(cd (Try.f56.body.getD .skip) [0, 1, 0, 0, 1, 1, 0, 0, 1, 1, 0])] (s56_p3_den K M1) (fun i => (bif Nat.beq i 1 then (s56_p2_den K M1) else (bif Nat.beq i 0 then (s56_p1_den K) else (fun _ _ => False)))) (s56_R K)
theorem s56_p4_ok (K : Value → World → Prop) (B1 : List Value → World → Prop) (s : Nat → Value) (w : World) (h : s56_p4 K B1 (s 0) (s 2) (s 7) (s 8) w) : Tr (s56_p4_den K (fun s w => B1 [s 0, s 7, s 8] w) s w) :=
  tr_draw (P := Try.prog) (ops := (ro (cd (Try.f56.body.getD .skip) [0, 1, 0, 0, 1, 1, 0, 0, 1, 1, 0]))) (ms := [0, 0, 2, 6, 14, 0, 32, 96, 224, 0, 992, 2016, 4064, 8160, 16382, 32767, 65535, 131071]) (cs := [0, 1, 2, 3, 4, 5, 6, 7, 8, 9, 10, 11, 12, 15, 16]) (N := (fun s w => s56_p3 K B1 (s 0) (s 2) (s 7) (s 8) w)) (N' := (s56_p3_den K (fun s w => B1 [s 0, s 7, s 8] w))) (s := s) (w := w) (p := s56_p4 K B1 (s 0) (s 2) (s 7) (s 8) w) (q := s56_p4_den K (fun s w => B1 [s 0, s 7, s 8] w) s w) (by kernel_rfl) (by kernel_rfl) (fun s w h => s56_p3_ok K B1 s w @h) (by kernel_rfl) (by kernel_rfl) @h
def s56_p5_d (K : Value → World → Prop) (B1 : List Value → World → Prop) (t0 t2 t7 t8 : Value) (w0 w : World) : Prop :=
  nck t0 (fun t12 _ =>
  fd 1 t12 (fun t13 _ =>
  ld1 t13 (fun t14 _ =>
  nck t0 (fun t16 _ =>
  fd 2 t16 (fun t17 _ =>
  ld1 t17 (fun t18 _ =>
  ixs 2 t18 t2 (fun t20 _ =>
  fd 0 t20 (fun t21 _ =>
  ld1 t21 (fun t22 _ =>
  ixs 1 t14 t22 (fun t23 _ =>
  st1 t23 (.int .i32 0) (fun w =>
  s56_p4 K B1 t0 t2 t7 t8 w) w) w0) w0) w0) w0) w0) w0) w0) w0) w0) w0
def s56_p5 (K : Value → World → Prop) (B1 : List Value → World → Prop) (t0 t2 t7 t8 : Value) (w : World) : Prop := s56_p5_d K B1 t0 t2 t7 t8 (drw w) (drw w)
def s56_p5_den (K : Value → World → Prop) (M1 : (Nat → Value) → World → Prop) : (Nat → Value) → World → Prop := denL Try.prog [(cd (Try.f56.body.getD .skip) [0, 1, 0, 0, 1, 1, 0, 0, 1, 0])] (s56_p4_den K M1) (fun i => (bif Nat.beq i 1 then (s56_p2_den K M1) else (bif Nat.beq i 0 then (s56_p1_den K) else (fun _ _ => False)))) (s56_R K)
theorem s56_p5_ok (K : Value → World → Prop) (B1 : List Value → World → Prop) (s : Nat → Value) (w : World) (h : s56_p5 K B1 (s 0) (s 2) (s 7) (s 8) w) : Tr (s56_p5_den K (fun s w => B1 [s 0, s 7, s 8] w) s w) :=
  tr_draw (P := Try.prog) (ops := (ro (cd (Try.f56.body.getD .skip) [0, 1, 0, 0, 1, 1, 0, 0, 1, 0]))) (ms := [0, 1, 3, 7, 0, 16, 48, 112, 0, 496, 1008, 2032, 4095, 8191]) (cs := [0, 1, 2, 3, 4, 5, 6, 7, 8, 9, 10, 11, 12]) (N := (fun s w => s56_p4 K B1 (s 0) (s 2) (s 7) (s 8) w)) (N' := (s56_p4_den K (fun s w => B1 [s 0, s 7, s 8] w))) (s := s) (w := w) (p := s56_p5 K B1 (s 0) (s 2) (s 7) (s 8) w) (q := s56_p5_den K (fun s w => B1 [s 0, s 7, s 8] w) s w) (by kernel_rfl) (by kernel_rfl) (fun s w h => s56_p4_ok K B1 s w @h) (by kernel_rfl) (by kernel_rfl) @h
def s56_p6 (K : Value → World → Prop) (B1 : List Value → World → Prop) (t0 t7 t8 : Value) (w : World) : Prop :=
  s56_p5 K B1 t0 t8 t7 t8 w
def s56_p6_den (K : Value → World → Prop) (M1 : (Nat → Value) → World → Prop) : (Nat → Value) → World → Prop := denL Try.prog [(cd (Try.f56.body.getD .skip) [0, 1, 0, 0, 1, 1, 0, 0, 0])] (s56_p5_den K M1) (fun i => (bif Nat.beq i 1 then (s56_p2_den K M1) else (bif Nat.beq i 0 then (s56_p1_den K) else (fun _ _ => False)))) (s56_R K)
theorem s56_p6_ok (K : Value → World → Prop) (B1 : List Value → World → Prop) (s : Nat → Value) (w : World) (h : s56_p6 K B1 (s 0) (s 7) (s 8) w) : Tr (s56_p6_den K (fun s w => B1 [s 0, s 7, s 8] w) s w) :=
  tr_simple (P := Try.prog) (codes := [(cd (Try.f56.body.getD .skip) [0, 1, 0, 0, 1, 1, 0, 0, 0])]) (N := (fun s w => s56_p5 K B1 (s 0) (s 2) (s 7) (s 8) w)) (N' := (s56_p5_den K (fun s w => B1 [s 0, s 7, s 8] w))) (X := (fun i => (bif Nat.beq i 1 then (fun s w => s56_p2 K B1 (s 0) (s 7) (s 8) w) else (bif Nat.beq i 0 then (fun s w => s56_p1 K (s 0) w) else (fun _ _ => False))))) (X' := (fun i => (bif Nat.beq i 1 then (s56_p2_den K (fun s w => B1 [s 0, s 7, s 8] w)) else (bif Nat.beq i 0 then (s56_p1_den K) else (fun _ _ => False))))) (R := s56_R K) (s := s) (w := w) (p := s56_p6 K B1 (s 0) (s 7) (s 8) w) (q := s56_p6_den K (fun s w => B1 [s 0, s 7, s 8] w) s w) (fun s w h => s56_p5_ok K B1 s w @h) (fun i => (tr_bif (fun s w h => s56_p2_ok K B1 s w @h) (tr_bif (fun s w h => s56_p1_ok K s w @h) tr_id))) (by kernel_rfl) (by kernel_rfl) @h
def s56_p7 (K : Value → World → Prop) (B1 : List Value → World → Prop) (t0 t7 t8 : Value) (w : World) : Prop :=
  boI .lss t8 t7 (fun t9 w =>
  ifb t9
  (s56_p6 K B1 t0 t7 t8 w)
  (s56_p1 K t0 w)) w
def s56_p7_den (K : Value → World → Prop) (M1 : (Nat → Value) → World → Prop) : (Nat → Value) → World → Prop := denL Try.prog [(cd (Try.f56.body.getD .skip) [0, 1, 0, 0, 0]), (cd (Try.f56.body.getD .skip) [0, 1, 0, 0, 1, 0])] (s56_p6_den K M1) (fun i => (bif Nat.beq i 0 then (s56_p1_den K) else (fun _ _ => False))) (s56_R K)
theorem s56_p7_ok (K : Value → World → Prop) (B1 : List Value → World → Prop) (s : Nat → Value) (w : World) (h : s56_p7 K B1 (s 0) (s 7) (s 8) w) : Tr (s56_p7_den K (fun s w => B1 [s 0, s 7, s 8] w) s w) :=
  tr_simple (P := Try.prog) (codes := [(cd (Try.f56.body.getD .skip) [0, 1, 0, 0, 0]), (cd (Try.f56.body.getD .skip) [0, 1, 0, 0, 1, 0])]) (N := (fun s w => s56_p6 K B1 (s 0) (s 7) (s 8) w)) (N' := (s56_p6_den K (fun s w => B1 [s 0, s 7, s 8] w))) (X := (fun i => (bif Nat.beq i 0 then (fun s w => s56_p1 K (s 0) w) else (fun _ _ => False)))) (X' := (fun i => (bif Nat.beq i 0 then (s56_p1_den K) else (fun _ _ => False)))) (R := s56_R K) (s := s) (w := w) (p := s56_p7 K B1 (s 0) (s 7) (s 8) w) (q := s56_p7_den K (fun s w => B1 [s 0, s 7, s 8] w) s w) (fun s w h => s56_p6_ok K B1 s w @h) (fun i => (tr_bif (fun s w h => s56_p1_ok K s w @h) tr_id)) (by kernel_rfl) (by kernel_rfl) @h
def s56_p8_F (K : Value → World → Prop) (B1 : List Value → World → Prop) (l : List Value) (w : World) : Prop :=
  match l with
  | [t0, t7, t8] => s56_p7 K B1 t0 t7 t8 w
  | _ => False
theorem s56_p8_Fe {K : Value → World → Prop} {B1 : List Value → World → Prop} {t0 t7 t8 : Value} {w : World} : s56_p8_F K B1 [t0, t7, t8] w = s56_p7 K B1 t0 t7 t8 w := by kernel_rfl
def s56_p8 (K : Value → World → Prop) (t0 t7 t8 : Value) (w : World) : Prop :=
  LoopL (s56_p8_F K) [t0, t7, t8] w
def s56_p8_den (K : Value → World → Prop) : (Nat → Value) → World → Prop := fun s w => LoopP (fun M1 s w => s56_p7_den K M1 s w) s w
theorem s56_p8_ok (K : Value → World → Prop) (s : Nat → Value) (w : World) (h : s56_p8 K (s 0) (s 7) (s 8) w) : Tr (s56_p8_den K s w) :=
  tr_loop (G := fun N' s w => s56_p7_den K N' s w) (F := s56_p8_F K) (sel := fun s => [s 0, s 7, s 8]) (s := s) (w := w) (p := s56_p8 K (s 0) (s 7) (s 8) w) (q := s56_p8_den K s w) (fun B s w h => s56_p7_ok K B s w @h) (by kernel_rfl) (by kernel_rfl) @h
def s56_p9 (K : Value → World → Prop) (t0 : Value) (w : World) : Prop :=
  nck t0 (fun t4 w =>
  fd 2 t4 (fun t5 w =>
  ld1 t5 (fun t6 w =>
  lnS t6 (fun t7 w =>
  s56_p8 K t0 t7 (.int .i64 0) w) w) w) w) w
def s56_p9_den (K : Value → World → Prop) : (Nat → Value) → World → Prop := denL Try.prog [(cd (Try.f56.body.getD .skip) [0, 0])] (s56_p8_den K) (fun i => (fun _ _ => False)) (s56_R K)
theorem s56_p9_ok (K : Value → World → Prop) (s : Nat → Value) (w : World) (h : s56_p9 K (s 0) w) : Tr (s56_p9_den K s w) :=
  tr_simple (P := Try.prog) (codes := [(cd (Try.f56.body.getD .skip) [0, 0])]) (N := (fun s w => s56_p8 K (s 0) (s 7) (s 8) w)) (N' := (s56_p8_den K)) (X := (fun i => (fun _ _ => False))) (X' := (fun i => (fun _ _ => False))) (R := s56_R K) (s := s) (w := w) (p := s56_p9 K (s 0) w) (q := s56_p9_den K s w) (fun s w h => s56_p8_ok K s w @h) (fun i => tr_id) (by kernel_rfl) (by kernel_rfl) @h
/-- the call, from the text -/
theorem c56 (t0 : Value) {K : Value → World → Prop} {w : World} (h : s56_p9 K t0 w) : cl Try.prog 56 #[t0] K w :=
  calls_of_tr (c := (Try.f56.body.getD .skip)) (fn := Try.f56) (q := s56_p9_den K (st0 #[t0]) w) Try.func56 (by kernel_rfl) (by kernel_rfl) (Nat.le_of_ble_eq_true (by kernel_rfl)) (by kernel_rfl) (by kernel_rfl) (s56_p9_ok K (st0 #[t0]) w @h)

/-! ### function 57 : (e2e.disk.Geometry).Valid -/
def s57_R (K : Value → World → Prop) (s : Nat → Value) (w : World) : Prop := retv Try.prog s Try.f57.results.toList (fun vs => K (pack vs) w) w
def s57_p1 (K : Value → World → Prop) (t2 : Value) (w : World) : Prop :=
  K t2 w
def s57_p1_den (K : Value → World → Prop) : (Nat → Value) → World → Prop := denL Try.prog [(cd (Try.f57.body.getD .skip) [1, 1, 1, 1])] (fun _ _ => False) (fun i => (fun _ _ => False)) (s57_R K)
theorem s57_p1_ok (K : Value → World → Prop) (s : Nat → Value) (w : World) (h : s57_p1 K (s 2) w) : Tr (s57_p1_den K s w) :=
  tr_simple (P := Try.prog) (codes := [(cd (Try.f57.body.getD .skip) [1, 1, 1, 1])]) (N := (fun _ _ => False)) (N' := (fun _ _ => False)) (X := (fun i => (fun _ _ => False))) (X' := (fun i => (fun _ _ => False))) (R := s57_R K) (s := s) (w := w) (p := s57_p1 K (s 2) w) (q := s57_p1_den K s w) tr_id (fun i => tr_id) (by kernel_rfl) (by kernel_rfl) @h
def s57_p2_d (K : Value → World → Prop) (t1 : Value) (w0 w : World) : Prop :=
  fd 1 t1 (fun t19 _ =>
  ld1 t19 (fun t20 _ =>
  fd 0 t1 (fun t21 _ =>
  ld1 t21 (fun t22 _ =>
  boI .quo (.int .i64 1073741824) t22 (fun t23 _ =>
  boI .leq t20 t23 (fun t24 _ =>
  s57_p1 K t24 w) w0) w0) w0) w0) w0) w0
def s57_p2 (K : Value → World → Prop) (t1 : Value) (w : World) : Prop := s57_p2_d K t1 (drw w) (drw w)
def s57_p2_den (K : Value → World → Prop) : (Nat → Value) → World → Prop := denL Try.prog [(cd (Try.f57.body.getD .skip) [1, 1, 1, 0])] (s57_p1_den K) (fun i => (fun _ _ => False)) (s57_R K)
theorem s57_p2_ok (K : Value → World → Prop) (s : Nat → Value) (w : World) (h : s57_p2 K (s 1) w) : Tr (s57_p2_den K s w) :=
  tr_draw (P := Try.prog) (ops := (ro (cd (Try.f57.body.getD .skip) [1, 1, 1, 0]))) (ms := [0, 1, 0, 4, 12, 31, 63]) (cs := [0, 1, 2, 3, 4, 5, 6]) (N := (fun s w => s57_p1 K (s 2) w)) (N' := (s57_p1_den K)) (s := s) (w := w) (p := s57_p2 K (s 1) w) (q := s57_p2_den K s w) (by kernel_rfl) (by kernel_rfl) (fun s w h => s57_p1_ok K s w @h) (by kernel_rfl) (by kernel_rfl) @h
def s57_p3 (K : Value → World → Prop) (t0 : Value) (w : World) : Prop :=
  nw 65 (t0).cells (fun t1 w =>
  fd 0 t1 (fun t3 w =>
  ld1 t3 (fun t4 w =>
  boI .lss t4 (.int .i64 1) (fun t5 w =>
  gd t5 false (fd 0 t1) (fun t7 w =>
  gd t5 false (ld1 t7) (fun t8 w =>
  gd t5 false (boI .gtr t8 (.int .i64 65536)) (fun t9 w =>
  pk t5 (.bool true) t9 (fun t10 w =>
  ifb t10
  (K (.bool false) w)
  (fd 1 t1 (fun t11 w =>
  ld1 t11 (fun t12 w =>
  boI .lss t12 (.int .i64 1) (fun t13 w =>
  gd t13 false (fd 1 t1) (fun t15 w =>
  gd t13 false (ld1 t15) (fun t16 w =>
  gd t13 false (boI .gtr t16 (.int .i64 16777216)) (fun t17 w =>
  pk t13 (.bool true) t17 (fun t18 w =>
  ifb t18
  (K (.bool false) w)
  (s57_p2 K t1 w)) w) w) w) w) w) w) w)) w) w) w) w) w) w) w) w
def s57_p3_den (K : Value → World → Prop) : (Nat → Value) → World → Prop := denL Try.prog [(cd (Try.f57.body.getD .skip) [0]), (cd (Try.f57.body.getD .skip) [1, 0, 0]), (cd (Try.f57.body.getD .skip) [1, 0, 1]), (cd (Try.f57.body.getD .skip) [1, 1, 0, 0]), (cd (Try.f57.body.getD .skip) [1, 1, 0, 1])] (s57_p2_den K) (fun i => (fun _ _ => False)) (s57_R K)
theorem s57_p3_ok (K : Value → World → Prop) (s : Nat → Value) (w : World) (h : s57_p3 K (s 0) w) : Tr (s57_p3_den K s w) :=
  tr_simple (P := Try.prog) (codes := [(cd (Try.f57.body.getD .skip) [0]), (cd (Try.f57.body.getD .skip) [1, 0, 0]), (cd (Try.f57.body.getD .skip) [1, 0, 1]), (cd (Try.f57.body.getD .skip) [1, 1, 0, 0]), (cd (Try.f57.body.getD .skip) [1, 1, 0, 1])]) (N := (fun s w => s57_p2 K (s 1) w)) (N' := (s57_p2_den K)) (X := (fun i => (fun _ _ => False))) (X' := (fun i => (fun _ _ => False))) (R := s57_R K) (s := s) (w := w) (p := s57_p3 K (s 0) w) (q := s57_p3_den K s w) (fun s w h => s57_p2_ok K s w @h) (fun i => tr_id) (by kernel_rfl) (by kernel_rfl) @h
/-- the call, from the text -/
theorem c57 (t0 : Value) {K : Value → World → Prop} {w : World} (h : s57_p3 K t0 w) : cl Try.prog 57 #[t0] K w :=
  calls_of_tr (c := (Try.f57.body.getD .skip)) (fn := Try.f57) (q := s57_p3_den K (st0 #[t0]) w) Try.func57 (by kernel_rfl) (by kernel_rfl) (Nat.le_of_ble_eq_true (by kernel_rfl)) (by kernel_rfl) (by kernel_rfl) (s57_p3_ok K (st0 #[t0]) w @h)

/-! ### function 58 : (e2e.disk.Geometry).Bytes -/
def s58_R (K : Value → World → Prop) (s : Nat → Value) (w : World) : Prop := retv Try.prog s Try.f58.results.toList (fun vs => K (pack vs) w) w
def s58_p1 (K : Value → World → Prop) (t0 : Value) (w : World) : Prop :=
  nw 65 (t0).cells (fun t1 w =>
  fd 0 t1 (fun t3 w =>
  ld1 t3 (fun t4 w =>
  fd 1 t1 (fun t5 w =>
  ld1 t5 (fun t6 w =>
  boI .mul t4 t6 (fun t7 w =>
  K t7 w) w) w) w) w) w) w
def s58_p1_den (K : Value → World → Prop) : (Nat → Value) → World → Prop := denL Try.prog [(cd (Try.f58.body.getD .skip) [0]), (cd (Try.f58.body.getD .skip) [1, 0]), (cd (Try.f58.body.getD .skip) [1, 1])] (fun _ _ => False) (fun i => (fun _ _ => False)) (s58_R K)
theorem s58_p1_ok (K : Value → World → Prop) (s : Nat → Value) (w : World) (h : s58_p1 K (s 0) w) : Tr (s58_p1_den K s w) :=
  tr_simple (P := Try.prog) (codes := [(cd (Try.f58.body.getD .skip) [0]), (cd (Try.f58.body.getD .skip) [1, 0]), (cd (Try.f58.body.getD .skip) [1, 1])]) (N := (fun _ _ => False)) (N' := (fun _ _ => False)) (X := (fun i => (fun _ _ => False))) (X' := (fun i => (fun _ _ => False))) (R := s58_R K) (s := s) (w := w) (p := s58_p1 K (s 0) w) (q := s58_p1_den K s w) tr_id (fun i => tr_id) (by kernel_rfl) (by kernel_rfl) @h
/-- the call, from the text -/
theorem c58 (t0 : Value) {K : Value → World → Prop} {w : World} (h : s58_p1 K t0 w) : cl Try.prog 58 #[t0] K w :=
  calls_of_tr (c := (Try.f58.body.getD .skip)) (fn := Try.f58) (q := s58_p1_den K (st0 #[t0]) w) Try.func58 (by kernel_rfl) (by kernel_rfl) (Nat.le_of_ble_eq_true (by kernel_rfl)) (by kernel_rfl) (by kernel_rfl) (s58_p1_ok K (st0 #[t0]) w @h)

/-! ### function 59 : e2e.disk.newCache -/
def s59_R (K : Value → World → Prop) (s : Nat → Value) (w : World) : Prop := retv Try.prog s Try.f59.results.toList (fun vs => K (pack vs) w) w
def s59_p1 (K : Value → World → Prop) (t2 : Value) (w : World) : Prop :=
  ldn 4 t2 (fun r0 _ =>
  K r0 w) w
def s59_p1_den (K : Value → World → Prop) : (Nat → Value) → World → Prop := denL Try.prog [(cd (Try.f59.body.getD .skip) [1, 1])] (fun _ _ => False) (fun i => (fun _ _ => False)) (s59_R K)
theorem s59_p1_ok (K : Value → World → Prop) (s : Nat → Value) (w : World) (h : s59_p1 K (s 2) w) : Tr (s59_p1_den K s w) :=
  tr_simple (P := Try.prog) (codes := [(cd (Try.f59.body.getD .skip) [1, 1])]) (N := (fun _ _ => False)) (N' := (fun _ _ => False)) (X := (fun i => (fun _ _ => False))) (X' := (fun i => (fun _ _ => False))) (R := s59_R K) (s := s) (w := w) (p := s59_p1 K (s 2) w) (q := s59_p1_den K s w) tr_id (fun i => tr_id) (by kernel_rfl) (by kernel_rfl) @h
def s59_p2_d (K : Value → World → Prop) (t1 t2 : Value) (w0 w : World) : Prop :=
  fd 0 t1 (fun t3 _ =>
  ld1 t3 (fun t4 _ =>
  fd 1 t1 (fun t5 _ =>
  ld1 t5 (fun t6 _ =>
  mks 21 [(.int .i32 0)] 4 t6 t6 (fun t7 w =>
  Below w0.heap.size w0 w ∧
  bdq [(.int .i64 0), (.slice none 0 0), (.slice none 0 0), (.slice none 0 0)] [(some (0, 1), t4), (some (1, 1), t7)] (fun t8 w =>
  stn 4 t2 t8 (fun w =>
  s59_p1 K t2 w) w) w) w) w0) w0) w0) w0
def s59_p2 (K : Value → World → Prop) (t1 t2 : Value) (w : World) : Prop := s59_p2_d K t1 t2 (drw w) (drw w)
def s59_p2_den (K : Value → World → Prop) : (Nat → Value) → World → Prop := denL Try.prog [(cd (Try.f59.body.getD .skip) [1, 0])] (s59_p1_den K) (fun i => (fun _ _ => False)) (s59_R K)
theorem s59_p2_ok (K : Value → World → Prop) (s : Nat → Value) (w : World) (h : s59_p2 K (s 1) (s 2) w) : Tr (s59_p2_den K s w) :=
  tr_draw (P := Try.prog) (ops := (ro (cd (Try.f59.body.getD .skip) [1, 0]))) (ms := [0, 1, 0, 4, 12, 31, 63]) (cs := [0, 1, 2, 3]) (N := (fun s w => s59_p1 K (s 2) w)) (N' := (s59_p1_den K)) (s := s) (w := w) (p := s59_p2 K (s 1) (s 2) w) (q := s59_p2_den K s w) (by kernel_rfl) (by kernel_rfl) (fun s w h => s59_p1_ok K s w @h) (by kernel_rfl) (by kernel_rfl) @h
def s59_p3 (K : Value → World → Prop) (t0 : Value) (w : World) : Prop :=
  nw 65 (t0).cells (fun t1 w =>
  nw 87 #[(.int .i64 0), (.slice none 0 0), (.slice none 0 0), (.slice none 0 0)] (fun t2 w =>
  s59_p2 K t1 t2 w) w) w
def s59_p3_den (K : Value → World → Prop) : (Nat → Value) → World → Prop := denL Try.prog [(cd (Try.f59.body.getD .skip) [0])] (s59_p2_den K) (fun i => (fun _ _ => False)) (s59_R K)
theorem s59_p3_ok (K : Value → World → Prop) (s : Nat → Value) (w : World) (h : s59_p3 K (s 0) w) : Tr (s59_p3_den K s w) :=
  tr_simple (P := Try.prog) (codes := [(cd (Try.f59.body.getD .skip) [0])]) (N := (fun s w => s59_p2 K (s 1) (s 2) w)) (N' := (s59_p2_den K)) (X := (fun i => (fun _ _ => False))) (X' := (fun i => (fun _ _ => False))) (R := s59_R K) (s := s) (w := w) (p := s59_p3 K (s 0) w) (q := s59_p3_den K s w) (fun s w h => s59_p2_ok K s w @h) (fun i => tr_id) (by kernel_rfl) (by kernel_rfl) @h
/-- the call, from the text -/
theorem c59 (t0 : Value) {K : Value → World → Prop} {w : World} (h : s59_p3 K t0 w) : cl Try.prog 59 #[t0] K w :=
  calls_of_tr (c := (Try.f59.body.getD .skip)) (fn := Try.f59) (q := s59_p3_den K (st0 #[t0]) w) Try.func59 (by kernel_rfl) (by kernel_rfl) (Nat.le_of_ble_eq_true (by kernel_rfl)) (by kernel_rfl) (by kernel_rfl) (s59_p3_ok K (st0 #[t0]) w @h)

/-! ### function 60 : (*e2e.disk.Disk).check -/
def s60_R (K : Value → World → Prop) (s : Nat → Value) (w : World) : Prop := retv Try.prog s Try.f60.results.toList (fun vs => K (pack vs) w) w
def s60_p1 (K : Value → World → Prop) (t1 t2 t3 t9 : Value) (w : World) : Prop :=
  boI .eql t9 (.int .i64 0) (fun t32 w =>
  ifb t32
  (K .nilIface w)
  (bdq [(.int .i64 0), (.string ⟨#[]⟩), (.int .i64 0), (.int .i64 0)] [(some (0, 1), t9), (some (1, 1), t1), (some (2, 1), t2), (some (3, 1), t3)] (fun t37 w =>
  nw 96 (t37).cells (fun t38 w =>
  K (.iface 94 t38) w) w) w)) w
def s60_p1_den (K : Value → World → Prop) : (Nat → Value) → World → Prop := denL Try.prog [(cd (Try.f60.body.getD .skip) [1, 1, 1, 0, 0]), (cd (Try.f60.body.getD .skip) [1, 1, 1, 0, 1]), (cd (Try.f60.body.getD .skip) [1, 1, 1, 1, 0]), (cd (Try.f60.body.getD .skip) [1, 1, 1, 1, 1])] (fun _ _ => False) (fun i => (fun _ _ => False)) (s60_R K)
theorem s60_p1_ok (K : Value → World → Prop) (s : Nat → Value) (w : World) (h : s60_p1 K (s 1) (s 2) (s 3) (s 9) w) : Tr (s60_p1_den K s w) :=
  tr_simple (P := Try.prog) (codes := [(cd (Try.f60.body.getD .skip) [1, 1, 1, 0, 0]), (cd (Try.f60.body.getD .skip) [1, 1, 1, 0, 1]), (cd (Try.f60.body.getD .skip) [1, 1, 1, 1, 0]), (cd (Try.f60.body.getD .skip) [1, 1, 1, 1, 1])]) (N := (fun _ _ => False)) (N' := (fun _ _ => False)) (X := (fun i => (fun _ _ => False))) (X' := (fun i => (fun _ _ => False))) (R := s60_R K) (s := s) (w := w) (p := s60_p1 K (s 1) (s 2) (s 3) (s 9) w) (q := s60_p1_den K s w) tr_id (fun i => tr_id) (by kernel_rfl) (by kernel_rfl) @h
def s60_p2 (K : Value → World → Prop) (t0 t1 t2 t3 : Value) (w : World) : Prop :=
  nck t0 (fun t12 w =>
  fd 7 t12 (fun t13 w =>
  ld1 t13 (fun t14 w =>
  ifb t14
  (s60_p1 K t1 t2 t3 (.int .i64 4) w)
  (nck t0 (fun t17 w =>
  fd 0 t17 (fun t18 w =>
  ldn 2 t18 (fun t19 w =>
  cl Try.prog 67 #[t19, t2] (fun t21 w =>
  un .not t21 (fun t22 w =>
  ifb t22
  (s60_p1 K t1 t2 t3 (.int .i64 1) w)
  (nck t0 (fun t26 w =>
  fd 0 t26 (fun t27 w =>
  fd 0 t27 (fun t28 w =>
  ld1 t28 (fun t29 w =>
  boI .neq t3 t29 (fun t30 w =>
  ifb t30
  (s60_p1 K t1 t2 t3 (.int .i64 2) w)
  (s60_p1 K t1 t2 t3 (.int .i64 0) w)) w) w) w) w) w)) w) w) w) w) w)) w) w) w
def s60_p2_den (K : Value → World → Prop) : (Nat → Value) → World → Prop := denL Try.prog [(cd (Try.f60.body.getD .skip) [0]), (cd (Try.f60.body.getD .skip) [1, 0]), (cd (Try.f60.body.getD .skip) [1, 1, 0])] (s60_p1_den K) (fun i => (fun _ _ => False)) (s60_R K)
theorem s60_p2_ok (K : Value → World → Prop) (s : Nat → Value) (w : World) (h : s60_p2 K (s 0) (s 1) (s 2) (s 3) w) : Tr (s60_p2_den K s w) :=
  tr_simple (P := Try.prog) (codes := [(cd (Try.f60.body.getD .skip) [0]), (cd (Try.f60.body.getD .skip) [1, 0]), (cd (Try.f60.body.getD .skip) [1, 1, 0])]) (N := (fun s w => s60_p1 K (s 1) (s 2) (s 3) (s 9) w)) (N' := (s60_p1_den K)) (X := (fun i => (fun _ _ => False))) (X' := (fun i => (fun _ _ => False))) (R := s60_R K) (s := s) (w := w) (p := s60_p2 K (s 0) (s 1) (s 2) (s 3) w) (q := s60_p2_den K s w) (fun s w h => s60_p1_ok K s w @h) (fun i => tr_id) (by kernel_rfl) (by kernel_rfl) @h
/-- the call, from the text -/
theorem c60 (t0 t1 t2 t3 : Value) {K : Value → World → Prop} {w : World} (h : s60_p2 K t0 t1 t2 t3 w) : cl Try.prog 60 #[t0, t1, t2, t3] K w :=
  calls_of_tr (c := (Try.f60.body.getD .skip)) (fn := Try.f60) (q := s60_p2_den K (st0 #[t0, t1, t2, t3]) w) Try.func60 (by kernel_rfl) (by kernel_rfl) (Nat.le_of_ble_eq_true (by kernel_rfl)) (by kernel_rfl) (by kernel_rfl) (s60_p2_ok K (st0 #[t0, t1, t2, t3]) w @h)

/-! ### function 61 : (*e2e.disk.cache).put -/
def s61_R (K : Value → World → Prop) (s : Nat → Value) (w : World) : Prop := retv Try.prog s Try.f61.results.toList (fun vs => K (pack vs) w) w
def s61_p1_d (K : Value → World → Prop) (t0 t1 : Value) (w0 w : World) : Prop :=
  nck t0 (fun t34 _ =>
  fd 1 t34 (fun t35 _ =>
  ld1 t35 (fun t36 _ =>
  nck t0 (fun t39 _ =>
  fd 2 t39 (fun t40 _ =>
  ld1 t40 (fun t41 _ =>
  lnS t41 (fun t42 _ =>
  cvi .i32 t42 (fun t43 _ =>
  ixs 1 t36 t1 (fun t44 _ =>
  st1 t44 t43 (fun w =>
  K (.tuple #[]) w) w) w0) w0) w0) w0) w0) w0) w0) w0) w0
def s61_p1 (K : Value → World → Prop) (t0 t1 : Value) (w : World) : Prop := s61_p1_d K t0 t1 (drw w) (drw w)
def s61_p1_den (K : Value → World → Prop) : (Nat → Value) → World → Prop := denL Try.prog [(cd (Try.f61.body.getD .skip) [1, 1, 1, 1])] (s61_R K) (fun i => (fun _ _ => False)) (s61_R K)
theorem s61_p1_ok (K : Value → World → Prop) (s : Nat → Value) (w : World) (h : s61_p1 K (s 0) (s 1) w) : Tr (s61_p1_den K s w) :=
  tr_draw (P := Try.prog) (ops := (ro (cd (Try.f61.body.getD .skip) [1, 1, 1, 1]))) (ms := [0, 1, 3, 7, 0, 0, 32, 96, 224, 480, 992, 2047, 4095]) (cs := [0, 1, 2, 3, 4, 5, 6, 7, 8, 9, 10, 11]) (N := (s61_R K)) (N' := (s61_R K)) (s := s) (w := w) (p := s61_p1 K (s 0) (s 1) w) (q := s61_p1_den K s w) (by kernel_rfl) (by kernel_rfl) tr_id (by kernel_rfl) (by kernel_rfl) @h
def s61_p2 (K : Value → World → Prop) (t0 t1 t2 : Value) (w : World) : Prop :=
  cl Try.prog 62 #[t0, t1] (fun t10 w =>
  boZ .neq t10 (.slice none 0 0) (fun t12 w =>
  ifb t12
  (cpq 1 t10 t2 (fun t15 w =>
  K (.tuple #[]) w) w)
  (cl Try.prog 68 #[t0] (fun t17 w =>
  cpq 1 t17 t2 (fun t20 w =>
  nck t0 (fun t23 w =>
  fd 2 t23 (fun t24 w =>
  ld1 t24 (fun t25 w =>
  bdq [(.int .i64 0), (.slice none 0 0)] [(some (0, 1), t1), (some (1, 1), t17)] (fun t28 w =>
  bsq 100 [(.int .i64 0), (.slice none 0 0)] 1 [(some (0, 2), t28)] (fun t29 w =>
  apq 100 [(.int .i64 0), (.slice none 0 0)] 32 t25 t29 (fun t30 w =>
  nck t0 (fun t31 w =>
  fd 2 t31 (fun t32 w =>
  st1 t32 t30 (fun w =>
  s61_p1 K t0 t1 w) w) w) w) w) w) w) w) w) w) w) w)) w) w
def s61_p2_den (K : Value → World → Prop) : (Nat → Value) → World → Prop := denL Try.prog [(cd (Try.f61.body.getD .skip) [0, 0]), (cd (Try.f61.body.getD .skip) [0, 1, 0]), (cd (Try.f61.body.getD .skip) [0, 1, 1]), (cd (Try.f61.body.getD .skip) [1, 0]), (cd (Try.f61.body.getD .skip) [1, 1, 0]), (cd (Try.f61.body.getD .skip) [1, 1, 1, 0])] (s61_p1_den K) (fun i => (fun _ _ => False)) (s61_R K)
theorem s61_p2_ok (K : Value → World → Prop) (s : Nat → Value) (w : World) (h : s61_p2 K (s 0) (s 1) (s 2) w) : Tr (s61_p2_den K s w) :=
  tr_simple (P := Try.prog) (codes := [(cd (Try.f61.body.getD .skip) [0, 0]), (cd (Try.f61.body.getD .skip) [0, 1, 0]), (cd (Try.f61.body.getD .skip) [0, 1, 1]), (cd (Try.f61.body.getD .skip) [1, 0]), (cd (Try.f61.body.getD .skip) [1, 1, 0]), (cd (Try.f61.body.getD .skip) [1, 1, 1, 0])]) (N := (fun s w => s61_p1 K (s 0) (s 1) w)) (N' := (s61_p1_den K)) (X := (fun i => (fun _ _ => False))) (X' := (fun i => (fun _ _ => False))) (R := s61_R K) (s := s) (w := w) (p := s61_p2 K (s 0) (s 1) (s 2) w) (q := s61_p2_den K s w) (fun s w h => s61_p1_ok K s w @h) (fun i => tr_id) (by kernel_rfl) (by kernel_rfl) @h
/-- the call, from the text -/
theorem c61 (t0 t1 t2 : Value) {K : Value → World → Prop} {w : World} (h : s61_p2 K t0 t1 t2 w) : cl Try.prog 61 #[t0, t1, t2] K w :=
  calls_of_tr (c := (Try.f61.body.getD .skip)) (fn := Try.f61) (q := s61_p2_den K (st0 #[t0, t1, t2]) w) Try.func61 (by kernel_rfl) (by kernel_rfl) (Nat.le_of_ble_eq_true (by kernel_rfl)) (by kernel_rfl) (by kernel_rfl) (s61_p2_ok K (st0 #[t0, t1, t2]) w @h)

/-! ### function 62 : (*e2e.disk.cache).lookup -/
def s62_R (K : Value → World → Prop) (s : Nat → Value) (w : World) : Prop := retv Try.prog s Try.f62.results.toList (fun vs => K (pack vs) w) w
def s62_p1 (K : Value → World → Prop) (t0 t1 : Value) (w : World) : Prop :=
  boI .lss t1 (.int .i64 0) (fun t7 w =>
  gd t7 false (fun K w => K t1 w) (fun t9 w =>
  gd t7 false (fun K w => K t0 w) (fun t10 w =>
  gd t7 false (nck t10) (fun t11 w =>
  gd t7 false (fd 1 t11) (fun t12 w =>
  gd t7 false (ld1 t12) (fun t13 w =>
  gd t7 false (lnS t13) (fun t14 w =>
  gd t7 false (boI .geq t9 t14) (fun t15 w =>
  pk t7 (.bool true) t15 (fun t16 w =>
  ifb t16
  (K (.slice none 0 0) w)
  (nck t0 (fun t18 w =>
  fd 1 t18 (fun t19 w =>
  ld1 t19 (fun t20 w =>
  ixs 1 t20 t1 (fun t22 w =>
  ld1 t22 (fun t23 w =>
  boI .eql t23 (.int .i32 0) (fun t25 w =>
  ifb t25
  (K (.slice none 0 0) w)
  (nck t0 (fun t27 w =>
  fd 2 t27 (fun t28 w =>
  ld1 t28 (fun t29 w =>
  boI .sub t23 (.int .i32 1) (fun t31 w =>
  ixs 2 t29 t31 (fun t32 w =>
  fd 1 t32 (fun t33 w =>
  ld1 t33 (fun t34 w =>
  K t34 w) w) w) w) w) w) w) w)) w) w) w) w) w) w)) w) w) w) w) w) w) w) w) w
def s62_p1_den (K : Value → World → Prop) : (Nat → Value) → World → Prop := denL Try.prog [(cd (Try.f62.body.getD .skip) [0]), (cd (Try.f62.body.getD .skip) [1, 0, 0]), (cd (Try.f62.body.getD .skip) [1, 0, 1]), (cd (Try.f62.body.getD .skip) [1, 1, 0]), (cd (Try.f62.body.getD .skip) [1, 1, 1, 0, 0]), (cd (Try.f62.body.getD .skip) [1, 1, 1, 0, 1]), (cd (Try.f62.body.getD .skip) [1, 1, 1, 1, 0]), (cd (Try.f62.body.getD .skip) [1, 1, 1, 1, 1])] (fun _ _ => False) (fun i => (fun _ _ => False)) (s62_R K)
theorem s62_p1_ok (K : Value → World → Prop) (s : Nat → Value) (w : World) (h : s62_p1 K (s 0) (s 1) w) : Tr (s62_p1_den K s w) :=
  tr_simple (P := Try.prog) (codes := [(cd (Try.f62.body.getD .skip) [0]), (cd (Try.f62.body.getD .skip) [1, 0, 0]), (cd (Try.f62.body.getD .skip) [1, 0, 1]), (cd (Try.f62.body.getD .skip) [1, 1, 0]), (cd (Try.f62.body.getD .skip) [1, 1, 1, 0, 0]), (cd (Try.f62.body.getD .skip) [1, 1, 1, 0, 1]), (cd (Try.f62.body.getD .skip) [1, 1, 1, 1, 0]), (cd (Try.f62.body.getD .skip) [1, 1, 1, 1, 1])]) (N := (fun _ _ => False)) (N' := (fun _ _ => False)) (X := (fun i => (fun _ _ => False))) (X' := (fun i => (fun _ _ => False))) (R := s62_R K) (s := s) (w := w) (p := s62_p1 K (s 0) (s 1) w) (q := s62_p1_den K s w) tr_id (fun i => tr_id) (by kernel_rfl) (by kernel_rfl) @h
/-- the call, from the text -/
theorem c62 (t0 t1 : Value) {K : Value → World → Prop} {w : World} (h : s62_p1 K t0 t1 w) : cl Try.prog 62 #[t0, t1] K w :=
  calls_of_tr (c := (Try.f62.body.getD .skip)) (fn := Try.f62) (q := s62_p1_den K (st0 #[t0, t1]) w) Try.func62 (by kernel_rfl) (by kernel_rfl) (Nat.le_of_ble_eq_true (by kernel_rfl)) (by kernel_rfl) (by kernel_rfl) (s62_p1_ok K (st0 #[t0, t1]) w @h)

/-! ### function 63 : e2e.diskm.refusal -/
def s63_R (K : Value → World → Prop) (s : Nat → Value) (w : World) : Prop := retv Try.prog s Try.f63.results.toList (fun vs => K (pack vs) w) w
def s63_p1 (K : Value → World → Prop) (t0 t1 t2 : Value) (w : World) : Prop :=
  nck t0 (fun t8 w =>
  fd 24 t8 (fun t9 w =>
  ld1 t9 (fun t10 w =>
  ifb t10
  (K (.int .i64 4) w)
  (boI .lss t1 (.int .i64 0) (fun t12 w =>
  gd t12 false (fun K w => K t1 w) (fun t14 w =>
  gd t12 false (boI .geq t14 (.int .i64 12)) (fun t15 w =>
  pk t12 (.bool true) t15 (fun t16 w =>
  ifb t16
  (K (.int .i64 1) w)
  (boI .neq t2 (.int .i64 16) (fun t18 w =>
  ifb t18
  (K (.int .i64 2) w)
  (K (.int .i64 0) w)) w)) w) w) w) w)) w) w) w
def s63_p1_den (K : Value → World → Prop) : (Nat → Value) → World → Prop := denL Try.prog [(cd (Try.f63.body.getD .skip) [0]), (cd (Try.f63.body.getD .skip) [1, 0, 0]), (cd (Try.f63.body.getD .skip) [1, 0, 1]), (cd (Try.f63.body.getD .skip) [1, 1, 0, 0]), (cd (Try.f63.body.getD .skip) [1, 1, 0, 1]), (cd (Try.f63.body.getD .skip) [1, 1, 1, 0, 0]), (cd (Try.f63.body.getD .skip) [1, 1, 1, 0, 1]), (cd (Try.f63.body.getD .skip) [1, 1, 1, 1, 0]), (cd (Try.f63.body.getD .skip) [1, 1, 1, 1, 1])] (fun _ _ => False) (fun i => (fun _ _ => False)) (s63_R K)
theorem s63_p1_ok (K : Value → World → Prop) (s : Nat → Value) (w : World) (h : s63_p1 K (s 0) (s 1) (s 2) w) : Tr (s63_p1_den K s w) :=
  tr_simple (P := Try.prog) (codes := [(cd (Try.f63.body.getD .skip) [0]), (cd (Try.f63.body.getD .skip) [1, 0, 0]), (cd (Try.f63.body.getD .skip) [1, 0, 1]), (cd (Try.f63.body.getD .skip) [1, 1, 0, 0]), (cd (Try.f63.body.getD .skip) [1, 1, 0, 1]), (cd (Try.f63.body.getD .skip) [1, 1, 1, 0, 0]), (cd (Try.f63.body.getD .skip) [1, 1, 1, 0, 1]), (cd (Try.f63.body.getD .skip) [1, 1, 1, 1, 0]), (cd (Try.f63.body.getD .skip) [1, 1, 1, 1, 1])]) (N := (fun _ _ => False)) (N' := (fun _ _ => False)) (X := (fun i => (fun _ _ => False))) (X' := (fun i => (fun _ _ => False))) (R := s63_R K) (s := s) (w := w) (p := s63_p1 K (s 0) (s 1) (s 2) w) (q := s63_p1_den K s w) tr_id (fun i => tr_id) (by kernel_rfl) (by kernel_rfl) @h
/-- the call, from the text -/
theorem c63 (t0 t1 t2 : Value) {K : Value → World → Prop} {w : World} (h : s63_p1 K t0 t1 t2 w) : cl Try.prog 63 #[t0, t1, t2] K w :=
  calls_of_tr (c := (Try.f63.body.getD .skip)) (fn := Try.f63) (q := s63_p1_den K (st0 #[t0, t1, t2]) w) Try.func63 (by kernel_rfl) (by kernel_rfl) (Nat.le_of_ble_eq_true (by kernel_rfl)) (by kernel_rfl) (by kernel_rfl) (s63_p1_ok K (st0 #[t0, t1, t2]) w @h)

/-! ### function 64 : (*e2e.diskm.Disk).count -/
def s64_R (K : Value → World → Prop) (s : Nat → Value) (w : World) : Prop := retv Try.prog s Try.f64.results.toList (fun vs => K (pack vs) w) w
def s64_p1 (K : Value → World → Prop) (t0 : Value) (w : World) : Prop :=
  nck t0 (fun t4 w =>
  fd 25 t4 (fun t5 w =>
  ld1 t5 (fun t6 w =>
  boI .eql t6 (.int .i64 0) (fun t7 w =>
  ifb t7
  (K (.int .i64 0) w)
  (nck t0 (fun t9 w =>
  fd 25 t9 (fun t10 w =>
  ld1 t10 (fun t11 w =>
  boI .sub t11 (.int .i64 1) (fun t12 w =>
  nck t0 (fun t13 w =>
  fd 25 t13 (fun t14 w =>
  st1 t14 t12 (fun w =>
  nck t0 (fun t16 w =>
  fd 25 t16 (fun t17 w =>
  ld1 t17 (fun t18 w =>
  boI .gtr t18 (.int .i64 0) (fun t19 w =>
  ifb t19
  (K (.int .i64 0) w)
  (nck t0 (fun t22 w =>
  fd 26 t22 (fun t23 w =>
  ldn 3 t23 (fun t24 w =>
  cl Try.prog 43 #[t0, t24] (fun t25 w =>
  K (.int .i64 4) w) w) w) w) w)) w) w) w) w) w) w) w) w) w) w) w)) w) w) w) w
def s64_p1_den (K : Value → World → Prop) : (Nat → Value) → World → Prop := denL Try.prog [(cd (Try.f64.body.getD .skip) [0]), (cd (Try.f64.body.getD .skip) [1, 0, 0]), (cd (Try.f64.body.getD .skip) [1, 0, 1]), (cd (Try.f64.body.getD .skip) [1, 1, 0]), (cd (Try.f64.body.getD .skip) [1, 1, 1, 0, 0]), (cd (Try.f64.body.getD .skip) [1, 1, 1, 0, 1]), (cd (Try.f64.body.getD .skip) [1, 1, 1, 1, 0]), (cd (Try.f64.body.getD .skip) [1, 1, 1, 1, 1, 0]), (cd (Try.f64.body.getD .skip) [1, 1, 1, 1, 1, 1])] (fun _ _ => False) (fun i => (fun _ _ => False)) (s64_R K)
theorem s64_p1_ok (K : Value → World → Prop) (s : Nat → Value) (w : World) (h : s64_p1 K (s 0) w) : Tr (s64_p1_den K s w) :=
  tr_simple (P := Try.prog) (codes := [(cd (Try.f64.body.getD .skip) [0]), (cd (Try.f64.body.getD .skip) [1, 0, 0]), (cd (Try.f64.body.getD .skip) [1, 0, 1]), (cd (Try.f64.body.getD .skip) [1, 1, 0]), (cd (Try.f64.body.getD .skip) [1, 1, 1, 0, 0]), (cd (Try.f64.body.getD .skip) [1, 1, 1, 0, 1]), (cd (Try.f64.body.getD .skip) [1, 1, 1, 1, 0]), (cd (Try.f64.body.getD .skip) [1, 1, 1, 1, 1, 0]), (cd (Try.f64.body.getD .skip) [1, 1, 1, 1, 1, 1])]) (N := (fun _ _ => False)) (N' := (fun _ _ => False)) (X := (fun i => (fun _ _ => False))) (X' := (fun i => (fun _ _ => False))) (R := s64_R K) (s := s) (w := w) (p := s64_p1 K (s 0) w) (q := s64_p1_den K s w) tr_id (fun i => tr_id) (by kernel_rfl) (by kernel_rfl) @h
/-- the call, from the text -/
theorem c64 (t0 : Value) {K : Value → World → Prop} {w : World} (h : s64_p1 K t0 w) : cl Try.prog 64 #[t0] K w :=
  calls_of_tr (c := (Try.f64.body.getD .skip)) (fn := Try.f64) (q := s64_p1_den K (st0 #[t0]) w) Try.func64 (by kernel_rfl) (by kernel_rfl) (Nat.le_of_ble_eq_true (by kernel_rfl)) (by kernel_rfl) (by kernel_rfl) (s64_p1_ok K (st0 #[t0]) w @h)

/-! ### function 65 : e2e.diskm.Mix -/
def s65_R (K : Value → World → Prop) (s : Nat → Value) (w : World) : Prop := retv Try.prog s Try.f65.results.toList (fun vs => K (pack vs) w) w
def s65_p1 (K : Value → World → Prop) (t7 : Value) (w : World) : Prop :=
  K t7 w
def s65_p1_den (K : Value → World → Prop) : (Nat → Value) → World → Prop := denL Try.prog [(cd (Try.f65.body.getD .skip) [1, 1, 1, 0]), (cd (Try.f65.body.getD .skip) [1, 1, 1, 1])] (fun _ _ => False) (fun i => (fun _ _ => False)) (s65_R K)
theorem s65_p1_ok (K : Value → World → Prop) (s : Nat → Value) (w : World) (h : s65_p1 K (s 7) w) : Tr (s65_p1_den K s w) :=
  tr_simple (P := Try.prog) (codes := [(cd (Try.f65.body.getD .skip) [1, 1, 1, 0]), (cd (Try.f65.body.getD .skip) [1, 1, 1, 1])]) (N := (fun _ _ => False)) (N' := (fun _ _ => False)) (X := (fun i => (fun _ _ => False))) (X' := (fun i => (fun _ _ => False))) (R := s65_R K) (s := s) (w := w) (p := s65_p1 K (s 7) w) (q := s65_p1_den K s w) tr_id (fun i => tr_id) (by kernel_rfl) (by kernel_rfl) @h
def s65_p2 (K : Value → World → Prop) (B1 : List Value → World → Prop) (t0 t1 t2 t7 t11 t12 : Value) (w : World) : Prop :=
  boI .add t12 (.int .i64 1) (fun t32 w =>
  B1 [t0, t1, t2, t7, t11, t32] w) w
def s65_p2_den (K : Value → World → Prop) (M1 : (Nat → Value) → World → Prop) : (Nat → Value) → World → Prop := denL Try.prog [(cd (Try.f65.body.getD .skip) [1, 1, 0, 1, 0, 0, 1, 1, 1])] M1 (fun i => (bif Nat.beq i 0 then (s65_p1_den K) else (fun _ _ => False))) (s65_R K)
theorem s65_p2_ok (K : Value → World → Prop) (B1 : List Value → World → Prop) (s : Nat → Value) (w : World) (h : s65_p2 K B1 (s 0) (s 1) (s 2) (s 7) (s 11) (s 12) w) : Tr (s65_p2_den K (fun s w => B1 [s 0, s 1, s 2, s 7, s 11, s 12] w) s w) :=
  tr_simple (P := Try.prog) (codes := [(cd (Try.f65.body.getD .skip) [1, 1, 0, 1, 0, 0, 1, 1, 1])]) (N := (fun s w => B1 [s 0, s 1, s 2, s 7, s 11, s 12] w)) (N' := (fun s w => B1 [s 0, s 1, s 2, s 7, s 11, s 12] w)) (X := (fun i => (bif Nat.beq i 0 then (fun s w => s65_p1 K (s 7) w) else (fun _ _ => False)))) (X' := (fun i => (bif Nat.beq i 0 then (s65_p1_den K) else (fun _ _ => False)))) (R := s65_R K) (s := s) (w := w) (p := s65_p2 K B1 (s 0) (s 1) (s 2) (s 7) (s 11) (s 12) w) (q := s65_p2_den K (fun s w => B1 [s 0, s 1, s 2, s 7, s 11, s 12] w) s w) tr_id (fun i => (tr_bif (fun s w h => s65_p1_ok K s w @h) tr_id)) (by kernel_rfl) (by kernel_rfl) @h
def s65_p3 (K : Value → World → Prop) (B1 : List Value → World → Prop) (t0 t1 t2 t7 t11 t12 : Value) (w : World) : Prop :=
  boI .lss t12 t11 (fun t13 w =>
  ifb t13
  (boI .lss t12 t2 (fun t17 w =>
  ifb t17
  (ixs 1 t0 t12 (fun t21 w =>
  ld1 t21 (fun t22 w =>
  bsq 5 [(.int .u8 0)] 1 [(some (0, 1), t22)] (fun t23 w =>
  apq 5 [(.int .u8 0)] 1 t7 t23 (fun t24 w =>
  s65_p2 K B1 t0 t1 t2 t24 t11 t12 w) w) w) w) w)
  (ixs 1 t1 t12 (fun t28 w =>
  ld1 t28 (fun t29 w =>
  bsq 5 [(.int .u8 0)] 1 [(some (0, 1), t29)] (fun t30 w =>
  apq 5 [(.int .u8 0)] 1 t7 t30 (fun t31 w =>
  s65_p2 K B1 t0 t1 t2 t31 t11 t12 w) w) w) w) w)) w)
  (s65_p1 K t7 w)) w
def s65_p3_den (K : Value → World → Prop) (M1 : (Nat → Value) → World → Prop) : (Nat → Value) → World → Prop := denL Try.prog [(cd (Try.f65.body.getD .skip) [1, 1, 0, 1, 0, 0, 0]), (cd (Try.f65.body.getD .skip) [1, 1, 0, 1, 0, 0, 1, 0]), (cd (Try.f65.body.getD .skip) [1, 1, 0, 1, 0, 0, 1, 1, 0])] (s65_p2_den K M1) (fun i => (bif Nat.beq i 0 then (s65_p1_den K) else (fun _ _ => False))) (s65_R K)
theorem s65_p3_ok (K : Value → World → Prop) (B1 : List Value → World → Prop) (s : Nat → Value) (w : World) (h : s65_p3 K B1 (s 0) (s 1) (s 2) (s 7) (s 11) (s 12) w) : Tr (s65_p3_den K (fun s w => B1 [s 0, s 1, s 2, s 7, s 11, s 12] w) s w) :=
  tr_simple (P := Try.prog) (codes := [(cd (Try.f65.body.getD .skip) [1, 1, 0, 1, 0, 0, 0]), (cd (Try.f65.body.getD .skip) [1, 1, 0, 1, 0, 0, 1, 0]), (cd (Try.f65.body.getD .skip) [1, 1, 0, 1, 0, 0, 1, 1, 0])]) (N := (fun s w => s65_p2 K B1 (s 0) (s 1) (s 2) (s 7) (s 11) (s 12) w)) (N' := (s65_p2_den K (fun s w => B1 [s 0, s 1, s 2, s 7, s 11, s 12] w))) (X := (fun i => (bif Nat.beq i 0 then (fun s w => s65_p1 K (s 7) w) else (fun _ _ => False)))) (X' := (fun i => (bif Nat.beq i 0 then (s65_p1_den K) else (fun _ _ => False)))) (R := s65_R K) (s := s) (w := w) (p := s65_p3 K B1 (s 0) (s 1) (s 2) (s 7) (s 11) (s 12) w) (q := s65_p3_den K (fun s w => B1 [s 0, s 1, s 2, s 7, s 11, s 12] w) s w) (fun s w h => s65_p2_ok K B1 s w @h) (fun i => (tr_bif (fun s w h => s65_p1_ok K s w @h) tr_id)) (by kernel_rfl) (by kernel_rfl) @h
def s65_p4_F (K : Value → World → Prop) (B1 : List Value → World → Prop) (l : List Value) (w : World) : Prop :=
  match l with
  | [t0, t1, t2, t7, t11, t12] => s65_p3 K B1 t0 t1 t2 t7 t11 t12 w
  | _ => False
theorem s65_p4_Fe {K : Value → World → Prop} {B1 : List Value → World → Prop} {t0 t1 t2 t7 t11 t12 : Value} {w : World} : s65_p4_F K B1 [t0, t1, t2, t7, t11, t12] w = s65_p3 K B1 t0 t1 t2 t7 t11 t12 w := by kernel_rfl
def s65_p4 (K : Value → World → Prop) (t0 t1 t2 t7 t11 t12 : Value) (w : World) : Prop :=
  LoopL (s65_p4_F K) [t0, t1, t2, t7, t11, t12] w
def s65_p4_den (K : Value → World → Prop) : (Nat → Value) → World → Prop := fun s w => LoopP (fun M1 s w => s65_p3_den K M1 s w) s w
theorem s65_p4_ok (K : Value → World → Prop) (s : Nat → Value) (w : World) (h : s65_p4 K (s 0) (s 1) (s 2) (s 7) (s 11) (s 12) w) : Tr (s65_p4_den K s w) :=
  tr_loop (G := fun N' s w => s65_p3_den K N' s w) (F := s65_p4_F K) (sel := fun s => [s 0, s 1, s 2, s 7, s 11, s 12]) (s := s) (w := w) (p := s65_p4 K (s 0) (s 1) (s 2) (s 7) (s 11) (s 12) w) (q := s65_p4_den K s w) (fun B s w h => s65_p3_ok K B s w @h) (by kernel_rfl) (by kernel_rfl) @h
def s65_p5 (K : Value → World → Prop) (t0 t1 t2 : Value) (w : World) : Prop :=
  bsq 5 [(.int .u8 0)] 0 [] (fun t9 w =>
  lnS t1 (fun t11 w =>
  s65_p4 K t0 t1 t2 t9 t11 (.int .i64 0) w) w) w
def s65_p5_den (K : Value → World → Prop) : (Nat → Value) → World → Prop := denL Try.prog [(cd (Try.f65.body.getD .skip) [0]), (cd (Try.f65.body.getD .skip) [1, 0]), (cd (Try.f65.body.getD .skip) [1, 1, 0, 0])] (s65_p4_den K) (fun i => (fun _ _ => False)) (s65_R K)
theorem s65_p5_ok (K : Value → World → Prop) (s : Nat → Value) (w : World) (h : s65_p5 K (s 0) (s 1) (s 2) w) : Tr (s65_p5_den K s w) :=
  tr_simple (P := Try.prog) (codes := [(cd (Try.f65.body.getD .skip) [0]), (cd (Try.f65.body.getD .skip) [1, 0]), (cd (Try.f65.body.getD .skip) [1, 1, 0, 0])]) (N := (fun s w => s65_p4 K (s 0) (s 1) (s 2) (s 7) (s 11) (s 12) w)) (N' := (s65_p4_den K)) (X := (fun i => (fun _ _ => False))) (X' := (fun i => (fun _ _ => False))) (R := s65_R K) (s := s) (w := w) (p := s65_p5 K (s 0) (s 1) (s 2) w) (q := s65_p5_den K s w) (fun s w h => s65_p4_ok K s w @h) (fun i => tr_id) (by kernel_rfl) (by kernel_rfl) @h
/-- the call, from the text -/
theorem c65 (t0 t1 t2 : Value) {K : Value → World → Prop} {w : World} (h : s65_p5 K t0 t1 t2 w) : cl Try.prog 65 #[t0, t1, t2] K w :=
  calls_of_tr (c := (Try.f65.body.getD .skip)) (fn := Try.f65) (q := s65_p5_den K (st0 #[t0, t1, t2]) w) Try.func65 (by kernel_rfl) (by kernel_rfl) (Nat.le_of_ble_eq_true (by kernel_rfl)) (by kernel_rfl) (by kernel_rfl) (s65_p5_ok K (st0 #[t0, t1, t2]) w @h)

/-! ### function 66 : (*e2e.disk.cache).sectors -/
def s66_R (K : Value → World → Prop) (s : Nat → Value) (w : World) : Prop := retv Try.prog s Try.f66.results.toList (fun vs => K (pack vs) w) w
def s66_p1 (K : Value → World → Prop) (t3 : Value) (w : World) : Prop :=
  cl Try.prog 69 #[t3] (fun t32 w =>
  K t3 w) w
def s66_p1_den (K : Value → World → Prop) : (Nat → Value) → World → Prop := denL Try.prog [(cd (Try.f66.body.getD .skip) [1, 1, 1, 0]), (cd (Try.f66.body.getD .skip) [1, 1, 1, 1, 0]), (cd (Try.f66.body.getD .skip) [1, 1, 1, 1, 1])] (fun _ _ => False) (fun i => (fun _ _ => False)) (s66_R K)
theorem s66_p1_ok (K : Value → World → Prop) (s : Nat → Value) (w : World) (h : s66_p1 K (s 3) w) : Tr (s66_p1_den K s w) :=
  tr_simple (P := Try.prog) (codes := [(cd (Try.f66.body.getD .skip) [1, 1, 1, 0]), (cd (Try.f66.body.getD .skip) [1, 1, 1, 1, 0]), (cd (Try.f66.body.getD .skip) [1, 1, 1, 1, 1])]) (N := (fun _ _ => False)) (N' := (fun _ _ => False)) (X := (fun i => (fun _ _ => False))) (X' := (fun i => (fun _ _ => False))) (R := s66_R K) (s := s) (w := w) (p := s66_p1 K (s 3) w) (q := s66_p1_den K s w) tr_id (fun i => tr_id) (by kernel_rfl) (by kernel_rfl) @h
def s66_p2 (K : Value → World → Prop) (B1 : List Value → World → Prop) (t0 t3 t15 t16 : Value) (w : World) : Prop :=
  boI .lss t16 t15 (fun t17 w =>
  ifb t17
  (nck t0 (fun t22 w =>
  fd 2 t22 (fun t23 w =>
  ld1 t23 (fun t24 w =>
  ixs 2 t24 t16 (fun t26 w =>
  fd 0 t26 (fun t27 w =>
  ld1 t27 (fun t28 w =>
  ixs 1 t3 t16 (fun t29 w =>
  st1 t29 t28 (fun w =>
  boI .add t16 (.int .i64 1) (fun t30 w =>
  B1 [t0, t3, t15, t30] w) w) w) w) w) w) w) w) w) w)
  (s66_p1 K t3 w)) w
def s66_p2_den (K : Value → World → Prop) (M1 : (Nat → Value) → World → Prop) : (Nat → Value) → World → Prop := denL Try.prog [(cd (Try.f66.body.getD .skip) [1, 1, 0, 1, 0, 0, 0]), (cd (Try.f66.body.getD .skip) [1, 1, 0, 1, 0, 0, 1, 0]), (cd (Try.f66.body.getD .skip) [1, 1, 0, 1, 0, 0, 1, 1, 0]), (cd (Try.f66.body.getD .skip) [1, 1, 0, 1, 0, 0, 1, 1, 1])] M1 (fun i => (bif Nat.beq i 0 then (s66_p1_den K) else (fun _ _ => False))) (s66_R K)
theorem s66_p2_ok (K : Value → World → Prop) (B1 : List Value → World → Prop) (s : Nat → Value) (w : World) (h : s66_p2 K B1 (s 0) (s 3) (s 15) (s 16) w) : Tr (s66_p2_den K (fun s w => B1 [s 0, s 3, s 15, s 16] w) s w) :=
  tr_simple (P := Try.prog) (codes := [(cd (Try.f66.body.getD .skip) [1, 1, 0, 1, 0, 0, 0]), (cd (Try.f66.body.getD .skip) [1, 1, 0, 1, 0, 0, 1, 0]), (cd (Try.f66.body.getD .skip) [1, 1, 0, 1, 0, 0, 1, 1, 0]), (cd (Try.f66.body.getD .skip) [1, 1, 0, 1, 0, 0, 1, 1, 1])]) (N := (fun s w => B1 [s 0, s 3, s 15, s 16] w)) (N' := (fun s w => B1 [s 0, s 3, s 15, s 16] w)) (X := (fun i => (bif Nat.beq i 0 then (fun s w => s66_p1 K (s 3) w) else (fun _ _ => False)))) (X' := (fun i => (bif Nat.beq i 0 then (s66_p1_den K) else (fun _ _ => False)))) (R := s66_R K) (s := s) (w := w) (p := s66_p2 K B1 (s 0) (s 3) (s 15) (s 16) w) (q := s66_p2_den K (fun s w => B1 [s 0, s 3, s 15, s 16] w) s w) tr_id (fun i => (tr_bif (fun s w h => s66_p1_ok K s w @h) tr_id)) (by kernel_rfl) (by kernel_rfl) @h
def s66_p3_F (K : Value → World → Prop) (B1 : List Value → World → Prop) (l : List Value) (w : World) : Prop :=
  match l with
  | [t0, t3, t15, t16] => s66_p2 K B1 t0 t3 t15 t16 w
  | _ => False
theorem s66_p3_Fe {K : Value → World → Prop} {B1 : List Value → World → Prop} {t0 t3 t15 t16 : Value} {w : World} : s66_p3_F K B1 [t0, t3, t15, t16] w = s66_p2 K B1 t0 t3 t15 t16 w := by kernel_rfl
def s66_p3 (K : Value → World → Prop) (t0 t3 t15 t16 : Value) (w : World) : Prop :=
  LoopL (s66_p3_F K) [t0, t3, t15, t16] w
def s66_p3_den (K : Value → World → Prop) : (Nat → Value) → World → Prop := fun s w => LoopP (fun M1 s w => s66_p2_den K M1 s w) s w
theorem s66_p3_ok (K : Value → World → Prop) (s : Nat → Value) (w : World) (h : s66_p3 K (s 0) (s 3) (s 15) (s 16) w) : Tr (s66_p3_den K s w) :=
  tr_loop (G := fun N' s w => s66_p2_den K N' s w) (F := s66_p3_F K) (sel := fun s => [s 0, s 3, s 15, s 16]) (s := s) (w := w) (p := s66_p3 K (s 0) (s 3) (s 15) (s 16) w) (q := s66_p3_den K s w) (fun B s w h => s66_p2_ok K B s w @h) (by kernel_rfl) (by kernel_rfl) @h
def s66_p4 (K : Value → World → Prop) (t0 : Value) (w : World) : Prop :=
  nck t0 (fun t6 w =>
  fd 2 t6 (fun t7 w =>
  ld1 t7 (fun t8 w =>
  lnS t8 (fun t9 w =>
  mks 3 [(.int .i64 0)] 8 t9 t9 (fun t10 w =>
  nck t0 (fun t12 w =>
  fd 2 t12 (fun t13 w =>
  ld1 t13 (fun t14 w =>
  lnS t14 (fun t15 w =>
  s66_p3 K t0 t10 t15 (.int .i64 0) w) w) w) w) w) w) w) w) w) w
def s66_p4_den (K : Value → World → Prop) : (Nat → Value) → World → Prop := denL Try.prog [(cd (Try.f66.body.getD .skip) [0]), (cd (Try.f66.body.getD .skip) [1, 0]), (cd (Try.f66.body.getD .skip) [1, 1, 0, 0])] (s66_p3_den K) (fun i => (fun _ _ => False)) (s66_R K)
theorem s66_p4_ok (K : Value → World → Prop) (s : Nat → Value) (w : World) (h : s66_p4 K (s 0) w) : Tr (s66_p4_den K s w) :=
  tr_simple (P := Try.prog) (codes := [(cd (Try.f66.body.getD .skip) [0]), (cd (Try.f66.body.getD .skip) [1, 0]), (cd (Try.f66.body.getD .skip) [1, 1, 0, 0])]) (N := (fun s w => s66_p3 K (s 0) (s 3) (s 15) (s 16) w)) (N' := (s66_p3_den K)) (X := (fun i => (fun _ _ => False))) (X' := (fun i => (fun _ _ => False))) (R := s66_R K) (s := s) (w := w) (p := s66_p4 K (s 0) w) (q := s66_p4_den K s w) (fun s w h => s66_p3_ok K s w @h) (fun i => tr_id) (by kernel_rfl) (by kernel_rfl) @h
/-- the call, from the text -/
theorem c66 (t0 : Value) {K : Value → World → Prop} {w : World} (h : s66_p4 K t0 w) : cl Try.prog 66 #[t0] K w :=
  calls_of_tr (c := (Try.f66.body.getD .skip)) (fn := Try.f66) (q := s66_p4_den K (st0 #[t0]) w) Try.func66 (by kernel_rfl) (by kernel_rfl) (Nat.le_of_ble_eq_true (by kernel_rfl)) (by kernel_rfl) (by kernel_rfl) (s66_p4_ok K (st0 #[t0]) w @h)

/-! ### function 67 : (e2e.disk.Geometry).Holds -/
def s67_R (K : Value → World → Prop) (s : Nat → Value) (w : World) : Prop := retv Try.prog s Try.f67.results.toList (fun vs => K (pack vs) w) w
def s67_p1 (K : Value → World → Prop) (t0 t1 : Value) (w : World) : Prop :=
  nw 65 (t0).cells (fun t2 w =>
  boI .geq t1 (.int .i64 0) (fun t6 w =>
  gd t6 true (fun K w => K t1 w) (fun t8 w =>
  gd t6 true (fd 1 t2) (fun t9 w =>
  gd t6 true (ld1 t9) (fun t10 w =>
  gd t6 true (boI .lss t8 t10) (fun t11 w =>
  pk t6 t11 (.bool false) (fun t12 w =>
  K t12 w) w) w) w) w) w) w) w
def s67_p1_den (K : Value → World → Prop) : (Nat → Value) → World → Prop := denL Try.prog [(cd (Try.f67.body.getD .skip) [0]), (cd (Try.f67.body.getD .skip) [1, 0]), (cd (Try.f67.body.getD .skip) [1, 1])] (fun _ _ => False) (fun i => (fun _ _ => False)) (s67_R K)
theorem s67_p1_ok (K : Value → World → Prop) (s : Nat → Value) (w : World) (h : s67_p1 K (s 0) (s 1) w) : Tr (s67_p1_den K s w) :=
  tr_simple (P := Try.prog) (codes := [(cd (Try.f67.body.getD .skip) [0]), (cd (Try.f67.body.getD .skip) [1, 0]), (cd (Try.f67.body.getD .skip) [1, 1])]) (N := (fun _ _ => False)) (N' := (fun _ _ => False)) (X := (fun i => (fun _ _ => False))) (X' := (fun i => (fun _ _ => False))) (R := s67_R K) (s := s) (w := w) (p := s67_p1 K (s 0) (s 1) w) (q := s67_p1_den K s w) tr_id (fun i => tr_id) (by kernel_rfl) (by kernel_rfl) @h
/-- the call, from the text -/
theorem c67 (t0 t1 : Value) {K : Value → World → Prop} {w : World} (h : s67_p1 K t0 t1 w) : cl Try.prog 67 #[t0, t1] K w :=
  calls_of_tr (c := (Try.f67.body.getD .skip)) (fn := Try.f67) (q := s67_p1_den K (st0 #[t0, t1]) w) Try.func67 (by kernel_rfl) (by kernel_rfl) (Nat.le_of_ble_eq_true (by kernel_rfl)) (by kernel_rfl) (by kernel_rfl) (s67_p1_ok K (st0 #[t0, t1]) w @h)

/-! ### function 68 : (*e2e.disk.cache).buffer -/
def s68_R (K : Value → World → Prop) (s : Nat → Value) (w : World) : Prop := retv Try.prog s Try.f68.results.toList (fun vs => K (pack vs) w) w
def s68_p1 (K : Value → World → Prop) (t0 : Value) (w : World) : Prop :=
  nck t0 (fun t6 w =>
  fd 3 t6 (fun t7 w =>
  ld1 t7 (fun t8 w =>
  lnS t8 (fun t9 w =>
  boI .eql t9 (.int .i64 0) (fun t11 w =>
  ifb t11
  (nck t0 (fun t13 w =>
  fd 0 t13 (fun t14 w =>
  ld1 t14 (fun t15 w =>
  mks 5 [(.int .u8 0)] 1 t15 t15 (fun t16 w =>
  K t16 w) w) w) w) w)
  (nck t0 (fun t18 w =>
  fd 3 t18 (fun t19 w =>
  ld1 t19 (fun t20 w =>
  boI .sub t9 (.int .i64 1) (fun t22 w =>
  ixs 1 t20 t22 (fun t23 w =>
  ld1 t23 (fun t24 w =>
  nck t0 (fun t26 w =>
  fd 3 t26 (fun t27 w =>
  ld1 t27 (fun t28 w =>
  boI .sub t9 (.int .i64 1) (fun t30 w =>
  ixs 1 t28 t30 (fun t31 w =>
  st1 t31 (.slice none 0 0) (fun w =>
  nck t0 (fun t34 w =>
  fd 3 t34 (fun t35 w =>
  ld1 t35 (fun t36 w =>
  boI .sub t9 (.int .i64 1) (fun t38 w =>
  sls 1 t36 none (some t38) (fun t39 w =>
  nck t0 (fun t40 w =>
  fd 3 t40 (fun t41 w =>
  st1 t41 t39 (fun w =>
  K t24 w) w) w) w) w) w) w) w) w) w) w) w) w) w) w) w) w) w) w) w) w)) w) w) w) w) w
def s68_p1_den (K : Value → World → Prop) : (Nat → Value) → World → Prop := denL Try.prog [(cd (Try.f68.body.getD .skip) [0]), (cd (Try.f68.body.getD .skip) [1, 0]), (cd (Try.f68.body.getD .skip) [1, 1, 0, 0]), (cd (Try.f68.body.getD .skip) [1, 1, 0, 1]), (cd (Try.f68.body.getD .skip) [1, 1, 1, 0]), (cd (Try.f68.body.getD .skip) [1, 1, 1, 1, 0]), (cd (Try.f68.body.getD .skip) [1, 1, 1, 1, 1, 0]), (cd (Try.f68.body.getD .skip) [1, 1, 1, 1, 1, 1, 0]), (cd (Try.f68.body.getD .skip) [1, 1, 1, 1, 1, 1, 1])] (fun _ _ => False) (fun i => (fun _ _ => False)) (s68_R K)
theorem s68_p1_ok (K : Value → World → Prop) (s : Nat → Value) (w : World) (h : s68_p1 K (s 0) w) : Tr (s68_p1_den K s w) :=
  tr_simple (P := Try.prog) (codes := [(cd (Try.f68.body.getD .skip) [0]), (cd (Try.f68.body.getD .skip) [1, 0]), (cd (Try.f68.body.getD .skip) [1, 1, 0, 0]), (cd (Try.f68.body.getD .skip) [1, 1, 0, 1]), (cd (Try.f68.body.getD .skip) [1, 1, 1, 0]), (cd (Try.f68.body.getD .skip) [1, 1, 1, 1, 0]), (cd (Try.f68.body.getD .skip) [1, 1, 1, 1, 1, 0]), (cd (Try.f68.body.getD .skip) [1, 1, 1, 1, 1, 1, 0]), (cd (Try.f68.body.getD .skip) [1, 1, 1, 1, 1, 1, 1])]) (N := (fun _ _ => False)) (N' := (fun _ _ => False)) (X := (fun i => (fun _ _ => False))) (X' := (fun i => (fun _ _ => False))) (R := s68_R K) (s := s) (w := w) (p := s68_p1 K (s 0) w) (q := s68_p1_den K s w) tr_id (fun i => tr_id) (by kernel_rfl) (by kernel_rfl) @h
/-- the call, from the text -/
theorem c68 (t0 : Value) {K : Value → World → Prop} {w : World} (h : s68_p1 K t0 w) : cl Try.prog 68 #[t0] K w :=
  calls_of_tr (c := (Try.f68.body.getD .skip)) (fn := Try.f68) (q := s68_p1_den K (st0 #[t0]) w) Try.func68 (by kernel_rfl) (by kernel_rfl) (Nat.le_of_ble_eq_true (by kernel_rfl)) (by kernel_rfl) (by kernel_rfl) (s68_p1_ok K (st0 #[t0]) w @h)

/-! ### function 69 : e2e.disk.sortInts -/
def s69_R (K : Value → World → Prop) (s : Nat → Value) (w : World) : Prop := retv Try.prog s Try.f69.results.toList (fun vs => K (pack vs) w) w
def s69_p1 (K : Value → World → Prop) (B1 : List Value → World → Prop) (t0 t3 : Value) (w : World) : Prop :=
  boI .sub t3 (.int .i64 1) (fun t21 w =>
  B1 [t0, t21] w) w
def s69_p1_den (K : Value → World → Prop) (M1 : (Nat → Value) → World → Prop) : (Nat → Value) → World → Prop := denL Try.prog [(cd (Try.f69.body.getD .skip) [1, 1, 0, 0, 1, 1])] M1 (fun i => (bif Nat.beq i 2 then (s69_R K) else (fun _ _ => False))) (s69_R K)
theorem s69_p1_ok (K : Value → World → Prop) (B1 : List Value → World → Prop) (s : Nat → Value) (w : World) (h : s69_p1 K B1 (s 0) (s 3) w) : Tr (s69_p1_den K (fun s w => B1 [s 0, s 3] w) s w) :=
  tr_simple (P := Try.prog) (codes := [(cd (Try.f69.body.getD .skip) [1, 1, 0, 0, 1, 1])]) (N := (fun s w => B1 [s 0, s 3] w)) (N' := (fun s w => B1 [s 0, s 3] w)) (X := (fun i => (bif Nat.beq i 2 then (s69_R K) else (fun _ _ => False)))) (X' := (fun i => (bif Nat.beq i 2 then (s69_R K) else (fun _ _ => False)))) (R := s69_R K) (s := s) (w := w) (p := s69_p1 K B1 (s 0) (s 3) w) (q := s69_p1_den K (fun s w => B1 [s 0, s 3] w) s w) tr_id (fun i => (tr_bif tr_id tr_id)) (by kernel_rfl) (by kernel_rfl) @h
def s69_p2 (K : Value → World → Prop) (B1 : List Value → World → Prop) (t0 t3 : Value) (w : World) : Prop :=
  sls 1 t0 none (some t3) (fun t36 w =>
  cl Try.prog 70 #[t36, (.int .i64 0)] (fun t37 w =>
  s69_p1 K B1 t0 t3 w) w) w
def s69_p2_den (K : Value → World → Prop) (M1 : (Nat → Value) → World → Prop) : (Nat → Value) → World → Prop := denL Try.prog [(cd (Try.f69.body.getD .skip) [1, 1, 0, 0, 1, 0, 0, 1])] (s69_p1_den K M1) (fun i => (bif Nat.beq i 3 then (s69_p1_den K M1) else (bif Nat.beq i 2 then (s69_R K) else (fun _ _ => False)))) (s69_R K)
theorem s69_p2_ok (K : Value → World → Prop) (B1 : List Value → World → Prop) (s : Nat → Value) (w : World) (h : s69_p2 K B1 (s 0) (s 3) w) : Tr (s69_p2_den K (fun s w => B1 [s 0, s 3] w) s w) :=
  tr_simple (P := Try.prog) (codes := [(cd (Try.f69.body.getD .skip) [1, 1, 0, 0, 1, 0, 0, 1])]) (N := (fun s w => s69_p1 K B1 (s 0) (s 3) w)) (N' := (s69_p1_den K (fun s w => B1 [s 0, s 3] w))) (X := (fun i => (bif Nat.beq i 3 then (fun s w => s69_p1 K B1 (s 0) (s 3) w) else (bif Nat.beq i 2 then (s69_R K) else (fun _ _ => False))))) (X' := (fun i => (bif Nat.beq i 3 then (s69_p1_den K (fun s w => B1 [s 0, s 3] w)) else (bif Nat.beq i 2 then (s69_R K) else (fun _ _ => False))))) (R := s69_R K) (s := s) (w := w) (p := s69_p2 K B1 (s 0) (s 3) w) (q := s69_p2_den K (fun s w => B1 [s 0, s 3] w) s w) (fun s w h => s69_p1_ok K B1 s w @h) (fun i => (tr_bif (fun s w h => s69_p1_ok K B1 s w @h) (tr_bif tr_id tr_id))) (by kernel_rfl) (by kernel_rfl) @h
def s69_p3_d (K : Value → World → Prop) (B1 : List Value → World → Prop) (t0 t3 : Value) (w0 w : World) : Prop :=
  ixs 1 t0 t3 (fun t27 _ =>
  ld1 t27 (fun t28 _ =>
  ixs 1 t0 (.int .i64 0) (fun t30 _ =>
  ld1 t30 (fun t31 _ =>
  ixs 1 t0 (.int .i64 0) (fun t32 _ =>
  ixs 1 t0 t3 (fun t33 _ =>
  st1 t32 t28 (fun w =>
  st1 t33 t31 (fun w =>
  s69_p2 K B1 t0 t3 w) w) w) w0) w0) w0) w0) w0) w0
def s69_p3 (K : Value → World → Prop) (B1 : List Value → World → Prop) (t0 t3 : Value) (w : World) : Prop := s69_p3_d K B1 t0 t3 (drw w) (drw w)
def s69_p3_den (K : Value → World → Prop) (M1 : (Nat → Value) → World → Prop) : (Nat → Value) → World → Prop := denL Try.prog [(cd (Try.f69.body.getD .skip) [1, 1, 0, 0, 1, 0, 0, 0])] (s69_p2_den K M1) (fun i => (bif Nat.beq i 3 then (s69_p1_den K M1) else (bif Nat.beq i 2 then (s69_R K) else (fun _ _ => False)))) (s69_R K)
theorem s69_p3_ok (K : Value → World → Prop) (B1 : List Value → World → Prop) (s : Nat → Value) (w : World) (h : s69_p3 K B1 (s 0) (s 3) w) : Tr (s69_p3_den K (fun s w => B1 [s 0, s 3] w) s w) :=
  tr_draw (P := Try.prog) (ops := (ro (cd (Try.f69.body.getD .skip) [1, 1, 0, 0, 1, 0, 0, 0]))) (ms := [0, 0, 0, 0, 0, 24, 56, 0, 128, 384, 1017, 2041, 4095, 8191]) (cs := [0, 1, 2, 3, 4, 5, 6, 7, 8, 9, 10, 12]) (N := (fun s w => s69_p2 K B1 (s 0) (s 3) w)) (N' := (s69_p2_den K (fun s w => B1 [s 0, s 3] w))) (s := s) (w := w) (p := s69_p3 K B1 (s 0) (s 3) w) (q := s69_p3_den K (fun s w => B1 [s 0, s 3] w) s w) (by kernel_rfl) (by kernel_rfl) (fun s w h => s69_p2_ok K B1 s w @h) (by kernel_rfl) (by kernel_rfl) @h
def s69_p4 (K : Value → World → Prop) (B1 : List Value → World → Prop) (t0 t3 : Value) (w : World) : Prop :=
  boI .gtr t3 (.int .i64 0) (fun t19 w =>
  ifb t19
  (s69_p3 K B1 t0 t3 w)
  (K (.tuple #[]) w)) w
def s69_p4_den (K : Value → World → Prop) (M1 : (Nat → Value) → World → Prop) : (Nat → Value) → World → Prop := denL Try.prog [(cd (Try.f69.body.getD .skip) [1, 1, 0, 0, 0, 0]), (cd (Try.f69.body.getD .skip) [1, 1, 0, 0, 0, 1])] (s69_p3_den K M1) (fun i => (bif Nat.beq i 2 then (s69_R K) else (fun _ _ => False))) (s69_R K)
theorem s69_p4_ok (K : Value → World → Prop) (B1 : List Value → World → Prop) (s : Nat → Value) (w : World) (h : s69_p4 K B1 (s 0) (s 3) w) : Tr (s69_p4_den K (fun s w => B1 [s 0, s 3] w) s w) :=
  tr_simple (P := Try.prog) (codes := [(cd (Try.f69.body.getD .skip) [1, 1, 0, 0, 0, 0]), (cd (Try.f69.body.getD .skip) [1, 1, 0, 0, 0, 1])]) (N := (fun s w => s69_p3 K B1 (s 0) (s 3) w)) (N' := (s69_p3_den K (fun s w => B1 [s 0, s 3] w))) (X := (fun i => (bif Nat.beq i 2 then (s69_R K) else (fun _ _ => False)))) (X' := (fun i => (bif Nat.beq i 2 then (s69_R K) else (fun _ _ => False)))) (R := s69_R K) (s := s) (w := w) (p := s69_p4 K B1 (s 0) (s 3) w) (q := s69_p4_den K (fun s w => B1 [s 0, s 3] w) s w) (fun s w h => s69_p3_ok K B1 s w @h) (fun i => (tr_bif tr_id tr_id)) (by kernel_rfl) (by kernel_rfl) @h
def s69_p5_F (K : Value → World → Prop) (B1 : List Value → World → Prop) (l : List Value) (w : World) : Prop :=
  match l with
  | [t0, t3] => s69_p4 K B1 t0 t3 w
  | _ => False
theorem s69_p5_Fe {K : Value → World → Prop} {B1 : List Value → World → Prop} {t0 t3 : Value} {w : World} : s69_p5_F K B1 [t0, t3] w = s69_p4 K B1 t0 t3 w := by kernel_rfl
def s69_p5 (K : Value → World → Prop) (t0 t3 : Value) (w : World) : Prop :=
  LoopL (s69_p5_F K) [t0, t3] w
def s69_p5_den (K : Value → World → Prop) : (Nat → Value) → World → Prop := fun s w => LoopP (fun M1 s w => s69_p4_den K M1 s w) s w
theorem s69_p5_ok (K : Value → World → Prop) (s : Nat → Value) (w : World) (h : s69_p5 K (s 0) (s 3) w) : Tr (s69_p5_den K s w) :=
  tr_loop (G := fun N' s w => s69_p4_den K N' s w) (F := s69_p5_F K) (sel := fun s => [s 0, s 3]) (s := s) (w := w) (p := s69_p5 K (s 0) (s 3) w) (q := s69_p5_den K s w) (fun B s w h => s69_p4_ok K B s w @h) (by kernel_rfl) (by kernel_rfl) @h
def s69_p6 (K : Value → World → Prop) (t0 : Value) (w : World) : Prop :=
  lnS t0 (fun t16 w =>
  boI .sub t16 (.int .i64 1) (fun t17 w =>
  s69_p5 K t0 t17 w) w) w
def s69_p6_den (K : Value → World → Prop) : (Nat → Value) → World → Prop := denL Try.prog [(cd (Try.f69.body.getD .skip) [1, 0])] (s69_p5_den K) (fun i => (fun _ _ => False)) (s69_R K)
theorem s69_p6_ok (K : Value → World → Prop) (s : Nat → Value) (w : World) (h : s69_p6 K (s 0) w) : Tr (s69_p6_den K s w) :=
  tr_simple (P := Try.prog) (codes := [(cd (Try.f69.body.getD .skip) [1, 0])]) (N := (fun s w => s69_p5 K (s 0) (s 3) w)) (N' := (s69_p5_den K)) (X := (fun i => (fun _ _ => False))) (X' := (fun i => (fun _ _ => False))) (R := s69_R K) (s := s) (w := w) (p := s69_p6 K (s 0) w) (q := s69_p6_den K s w) (fun s w h => s69_p5_ok K s w @h) (fun i => tr_id) (by kernel_rfl) (by kernel_rfl) @h
def s69_p7 (K : Value → World → Prop) (B1 : List Value → World → Prop) (t0 t2 : Value) (w : World) : Prop :=
  boI .geq t2 (.int .i64 0) (fun t9 w =>
  ifb t9
  (cl Try.prog 70 #[t0, t2] (fun t14 w =>
  boI .sub t2 (.int .i64 1) (fun t11 w =>
  B1 [t0, t11] w) w) w)
  (s69_p6 K t0 w)) w
def s69_p7_den (K : Value → World → Prop) (M1 : (Nat → Value) → World → Prop) : (Nat → Value) → World → Prop := denL Try.prog [(cd (Try.f69.body.getD .skip) [0, 1, 0, 0, 0, 0]), (cd (Try.f69.body.getD .skip) [0, 1, 0, 0, 0, 1]), (cd (Try.f69.body.getD .skip) [0, 1, 0, 0, 1, 0]), (cd (Try.f69.body.getD .skip) [0, 1, 0, 0, 1, 1])] M1 (fun i => (bif Nat.beq i 0 then (s69_p6_den K) else (fun _ _ => False))) (s69_R K)
theorem s69_p7_ok (K : Value → World → Prop) (B1 : List Value → World → Prop) (s : Nat → Value) (w : World) (h : s69_p7 K B1 (s 0) (s 2) w) : Tr (s69_p7_den K (fun s w => B1 [s 0, s 2] w) s w) :=
  tr_simple (P := Try.prog) (codes := [(cd (Try.f69.body.getD .skip) [0, 1, 0, 0, 0, 0]), (cd (Try.f69.body.getD .skip) [0, 1, 0, 0, 0, 1]), (cd (Try.f69.body.getD .skip) [0, 1, 0, 0, 1, 0]), (cd (Try.f69.body.getD .skip) [0, 1, 0, 0, 1, 1])]) (N := (fun s w => B1 [s 0, s 2] w)) (N' := (fun s w => B1 [s 0, s 2] w)) (X := (fun i => (bif Nat.beq i 0 then (fun s w => s69_p6 K (s 0) w) else (fun _ _ => False)))) (X' := (fun i => (bif Nat.beq i 0 then (s69_p6_den K) else (fun _ _ => False)))) (R := s69_R K) (s := s) (w := w) (p := s69_p7 K B1 (s 0) (s 2) w) (q := s69_p7_den K (fun s w => B1 [s 0, s 2] w) s w) tr_id (fun i => (tr_bif (fun s w h => s69_p6_ok K s w @h) tr_id)) (by kernel_rfl) (by kernel_rfl) @h
def s69_p8_F (K : Value → World → Prop) (B1 : List Value → World → Prop) (l : List Value) (w : World) : Prop :=
  match l with
  | [t0, t2] => s69_p7 K B1 t0 t2 w
  | _ => False
theorem s69_p8_Fe {K : Value → World → Prop} {B1 : List Value → World → Prop} {t0 t2 : Value} {w : World} : s69_p8_F K B1 [t0, t2] w = s69_p7 K B1 t0 t2 w := by kernel_rfl
def s69_p8 (K : Value → World → Prop) (t0 t2 : Value) (w : World) : Prop :=
  LoopL (s69_p8_F K) [t0, t2] w
def s69_p8_den (K : Value → World → Prop) : (Nat → Value) → World → Prop := fun s w => LoopP (fun M1 s w => s69_p7_den K M1 s w) s w
theorem s69_p8_ok (K : Value → World → Prop) (s : Nat → Value) (w : World) (h : s69_p8 K (s 0) (s 2) w) : Tr (s69_p8_den K s w) :=
  tr_loop (G := fun N' s w => s69_p7_den K N' s w) (F := s69_p8_F K) (sel := fun s => [s 0, s 2]) (s := s) (w := w) (p := s69_p8 K (s 0) (s 2) w) (q := s69_p8_den K s w) (fun B s w h => s69_p7_ok K B s w @h) (by kernel_rfl) (by kernel_rfl) @h
def s69_p9 (K : Value → World → Prop) (t0 : Value) (w : World) : Prop :=
  lnS t0 (fun t5 w =>
  boI .quo t5 (.int .i64 2) (fun t6 w =>
  boI .sub t6 (.int .i64 1) (fun t7 w =>
  s69_p8 K t0 t7 w) w) w) w
def s69_p9_den (K : Value → World → Prop) : (Nat → Value) → World → Prop := denL Try.prog [(cd (Try.f69.body.getD .skip) [0, 0])] (s69_p8_den K) (fun i => (fun _ _ => False)) (s69_R K)
theorem s69_p9_ok (K : Value → World → Prop) (s : Nat → Value) (w : World) (h : s69_p9 K (s 0) w) : Tr (s69_p9_den K s w) :=
  tr_simple (P := Try.prog) (codes := [(cd (Try.f69.body.getD .skip) [0, 0])]) (N := (fun s w => s69_p8 K (s 0) (s 2) w)) (N' := (s69_p8_den K)) (X := (fun i => (fun _ _ => False))) (X' := (fun i => (fun _ _ => False))) (R := s69_R K) (s := s) (w := w) (p := s69_p9 K (s 0) w) (q := s69_p9_den K s w) (fun s w h => s69_p8_ok K s w @h) (fun i => tr_id) (by kernel_rfl) (by kernel_rfl) @h
/-- the call, from the text -/
theorem c69 (t0 : Value) {K : Value → World → Prop} {w : World} (h : s69_p9 K t0 w) : cl Try.prog 69 #[t0] K w :=
  calls_of_tr (c := (Try.f69.body.getD .skip)) (fn := Try.f69) (q := s69_p9_den K (st0 #[t0]) w) Try.func69 (by kernel_rfl) (by kernel_rfl) (Nat.le_of_ble_eq_true (by kernel_rfl)) (by kernel_rfl) (by kernel_rfl) (s69_p9_ok K (st0 #[t0]) w @h)

/-! ### function 70 : e2e.disk.sift -/
def s70_R (K : Value → World → Prop) (s : Nat → Value) (w : World) : Prop := retv Try.prog s Try.f70.results.toList (fun vs => K (pack vs) w) w
def s70_p1 (K : Value → World → Prop) (B1 : List Value → World → Prop) (t0 t4 : Value) (w : World) : Prop :=
  B1 [t0, t4] w
def s70_p1_den (K : Value → World → Prop) (M1 : (Nat → Value) → World → Prop) : (Nat → Value) → World → Prop := denL Try.prog [(cd (Try.f70.body.getD .skip) [0, 0, 0, 1, 1, 1, 1, 1])] M1 (fun i => (bif Nat.beq i 1 then M1 else (bif Nat.beq i 0 then (s70_R K) else (fun _ _ => False)))) (s70_R K)
theorem s70_p1_ok (K : Value → World → Prop) (B1 : List Value → World → Prop) (s : Nat → Value) (w : World) (h : s70_p1 K B1 (s 0) (s 4) w) : Tr (s70_p1_den K (fun s w => B1 [s 0, s 1] w) s w) :=
  tr_simple (P := Try.prog) (codes := [(cd (Try.f70.body.getD .skip) [0, 0, 0, 1, 1, 1, 1, 1])]) (N := (fun s w => B1 [s 0, s 1] w)) (N' := (fun s w => B1 [s 0, s 1] w)) (X := (fun i => (bif Nat.beq i 1 then (fun s w => B1 [s 0, s 1] w) else (bif Nat.beq i 0 then (s70_R K) else (fun _ _ => False))))) (X' := (fun i => (bif Nat.beq i 1 then (fun s w => B1 [s 0, s 1] w) else (bif Nat.beq i 0 then (s70_R K) else (fun _ _ => False))))) (R := s70_R K) (s := s) (w := w) (p := s70_p1 K B1 (s 0) (s 4) w) (q := s70_p1_den K (fun s w => B1 [s 0, s 1] w) s w) tr_id (fun i => (tr_bif tr_id (tr_bif tr_id tr_id))) (by kernel_rfl) (by kernel_rfl) @h
def s70_p2_d (K : Value → World → Prop) (B1 : List Value → World → Prop) (t0 t1 t4 : Value) (w0 w : World) : Prop :=
  ixs 1 t0 t4 (fun t46 _ =>
  ld1 t46 (fun t47 _ =>
  ixs 1 t0 t1 (fun t50 _ =>
  ld1 t50 (fun t51 _ =>
  ixs 1 t0 t1 (fun t52 _ =>
  ixs 1 t0 t4 (fun t53 _ =>
  st1 t52 t47 (fun w =>
  st1 t53 t51 (fun w =>
  s70_p1 K B1 t0 t4 w) w) w) w0) w0) w0) w0) w0) w0
def s70_p2 (K : Value → World → Prop) (B1 : List Value → World → Prop) (t0 t1 t4 : Value) (w : World) : Prop := s70_p2_d K B1 t0 t1 t4 (drw w) (drw w)
def s70_p2_den (K : Value → World → Prop) (M1 : (Nat → Value) → World → Prop) : (Nat → Value) → World → Prop := denL Try.prog [(cd (Try.f70.body.getD .skip) [0, 0, 0, 1, 1, 1, 1, 0])] (s70_p1_den K M1) (fun i => (bif Nat.beq i 1 then M1 else (bif Nat.beq i 0 then (s70_R K) else (fun _ _ => False)))) (s70_R K)
theorem s70_p2_ok (K : Value → World → Prop) (B1 : List Value → World → Prop) (s : Nat → Value) (w : World) (h : s70_p2 K B1 (s 0) (s 1) (s 4) w) : Tr (s70_p2_den K (fun s w => B1 [s 0, s 1] w) s w) :=
  tr_draw (P := Try.prog) (ops := (ro (cd (Try.f70.body.getD .skip) [0, 0, 0, 1, 1, 1, 1, 0]))) (ms := [0, 0, 0, 0, 0, 0, 48, 112, 0, 0, 768, 1792, 4083, 8179, 16383, 32767]) (cs := [0, 1, 2, 3, 4, 5, 6, 7, 8, 9, 10, 11, 12, 14]) (N := (fun s w => s70_p1 K B1 (s 0) (s 4) w)) (N' := (s70_p1_den K (fun s w => B1 [s 0, s 1] w))) (s := s) (w := w) (p := s70_p2 K B1 (s 0) (s 1) (s 4) w) (q := s70_p2_den K (fun s w => B1 [s 0, s 1] w) s w) (by kernel_rfl) (by kernel_rfl) (fun s w h => s70_p1_ok K B1 s w @h) (by kernel_rfl) (by kernel_rfl) @h
def s70_p3 (K : Value → World → Prop) (B1 : List Value → World → Prop) (t0 t1 t4 t39 : Value) (w : World) : Prop :=
  ifb t39
  (K (.tuple #[]) w)
  (s70_p2 K B1 t0 t1 t4 w)
def s70_p3_den (K : Value → World → Prop) (M1 : (Nat → Value) → World → Prop) : (Nat → Value) → World → Prop := denL Try.prog [(cd (Try.f70.body.getD .skip) [0, 0, 0, 1, 1, 1, 0, 1])] (s70_p2_den K M1) (fun i => (bif Nat.beq i 1 then M1 else (bif Nat.beq i 0 then (s70_R K) else (fun _ _ => False)))) (s70_R K)
theorem s70_p3_ok (K : Value → World → Prop) (B1 : List Value → World → Prop) (s : Nat → Value) (w : World) (h : s70_p3 K B1 (s 0) (s 1) (s 4) (s 39) w) : Tr (s70_p3_den K (fun s w => B1 [s 0, s 1] w) s w) :=
  tr_simple (P := Try.prog) (codes := [(cd (Try.f70.body.getD .skip) [0, 0, 0, 1, 1, 1, 0, 1])]) (N := (fun s w => s70_p2 K B1 (s 0) (s 1) (s 4) w)) (N' := (s70_p2_den K (fun s w => B1 [s 0, s 1] w))) (X := (fun i => (bif Nat.beq i 1 then (fun s w => B1 [s 0, s 1] w) else (bif Nat.beq i 0 then (s70_R K) else (fun _ _ => False))))) (X' := (fun i => (bif Nat.beq i 1 then (fun s w => B1 [s 0, s 1] w) else (bif Nat.beq i 0 then (s70_R K) else (fun _ _ => False))))) (R := s70_R K) (s := s) (w := w) (p := s70_p3 K B1 (s 0) (s 1) (s 4) (s 39) w) (q := s70_p3_den K (fun s w => B1 [s 0, s 1] w) s w) (fun s w h => s70_p2_ok K B1 s w @h) (fun i => (tr_bif tr_id (tr_bif tr_id tr_id))) (by kernel_rfl) (by kernel_rfl) @h
def s70_p4_d (K : Value → World → Prop) (B1 : List Value → World → Prop) (t0 t1 t4 : Value) (w0 w : World) : Prop :=
  ixs 1 t0 t1 (fun t33 _ =>
  ld1 t33 (fun t34 _ =>
  ixs 1 t0 t4 (fun t37 _ =>
  ld1 t37 (fun t38 _ =>
  boI .geq t34 t38 (fun t39 _ =>
  s70_p3 K B1 t0 t1 t4 t39 w) w0) w0) w0) w0) w0
def s70_p4 (K : Value → World → Prop) (B1 : List Value → World → Prop) (t0 t1 t4 : Value) (w : World) : Prop := s70_p4_d K B1 t0 t1 t4 (drw w) (drw w)
def s70_p4_den (K : Value → World → Prop) (M1 : (Nat → Value) → World → Prop) : (Nat → Value) → World → Prop := denL Try.prog [(cd (Try.f70.body.getD .skip) [0, 0, 0, 1, 1, 1, 0, 0])] (s70_p3_den K M1) (fun i => (bif Nat.beq i 1 then M1 else (bif Nat.beq i 0 then (s70_R K) else (fun _ _ => False)))) (s70_R K)
theorem s70_p4_ok (K : Value → World → Prop) (B1 : List Value → World → Prop) (s : Nat → Value) (w : World) (h : s70_p4 K B1 (s 0) (s 1) (s 4) w) : Tr (s70_p4_den K (fun s w => B1 [s 0, s 1] w) s w) :=
  tr_draw (P := Try.prog) (ops := (ro (cd (Try.f70.body.getD .skip) [0, 0, 0, 1, 1, 1, 0, 0]))) (ms := [0, 0, 3, 7, 0, 0, 48, 112, 255]) (cs := [0, 1, 2, 3, 4, 5, 6, 7, 8]) (N := (fun s w => s70_p3 K B1 (s 0) (s 1) (s 4) (s 39) w)) (N' := (s70_p3_den K (fun s w => B1 [s 0, s 1] w))) (s := s) (w := w) (p := s70_p4 K B1 (s 0) (s 1) (s 4) w) (q := s70_p4_den K (fun s w => B1 [s 0, s 1] w) s w) (by kernel_rfl) (by kernel_rfl) (fun s w h => s70_p3_ok K B1 s w @h) (by kernel_rfl) (by kernel_rfl) @h
def s70_p5 (K : Value → World → Prop) (B1 : List Value → World → Prop) (t0 t1 t4 t28 : Value) (w : World) : Prop :=
  ifb t28
  (boI .add t4 (.int .i64 1) (fun t30 w =>
  s70_p4 K B1 t0 t1 t30 w) w)
  (s70_p4 K B1 t0 t1 t4 w)
def s70_p5_den (K : Value → World → Prop) (M1 : (Nat → Value) → World → Prop) : (Nat → Value) → World → Prop := denL Try.prog [(cd (Try.f70.body.getD .skip) [0, 0, 0, 1, 1, 0, 1])] (s70_p4_den K M1) (fun i => (bif Nat.beq i 1 then M1 else (bif Nat.beq i 0 then (s70_R K) else (fun _ _ => False)))) (s70_R K)
theorem s70_p5_ok (K : Value → World → Prop) (B1 : List Value → World → Prop) (s : Nat → Value) (w : World) (h : s70_p5 K B1 (s 0) (s 1) (s 4) (s 28) w) : Tr (s70_p5_den K (fun s w => B1 [s 0, s 1] w) s w) :=
  tr_simple (P := Try.prog) (codes := [(cd (Try.f70.body.getD .skip) [0, 0, 0, 1, 1, 0, 1])]) (N := (fun s w => s70_p4 K B1 (s 0) (s 1) (s 4) w)) (N' := (s70_p4_den K (fun s w => B1 [s 0, s 1] w))) (X := (fun i => (bif Nat.beq i 1 then (fun s w => B1 [s 0, s 1] w) else (bif Nat.beq i 0 then (s70_R K) else (fun _ _ => False))))) (X' := (fun i => (bif Nat.beq i 1 then (fun s w => B1 [s 0, s 1] w) else (bif Nat.beq i 0 then (s70_R K) else (fun _ _ => False))))) (R := s70_R K) (s := s) (w := w) (p := s70_p5 K B1 (s 0) (s 1) (s 4) (s 28) w) (q := s70_p5_den K (fun s w => B1 [s 0, s 1] w) s w) (fun s w h => s70_p4_ok K B1 s w @h) (fun i => (tr_bif tr_id (tr_bif tr_id tr_id))) (by kernel_rfl) (by kernel_rfl) @h
def s70_p6_d (K : Value → World → Prop) (B1 : List Value → World → Prop) (t0 t1 t4 : Value) (w0 w : World) : Prop :=
  boI .add t4 (.int .i64 1) (fun t13 _ =>
  lnS t0 (fun t15 _ =>
  boI .lss t13 t15 (fun t16 _ =>
  gd t16 true (fun K w => K t0 w) (fun t18 _ =>
  gd t16 true (fun K w => K t4 w) (fun t19 _ =>
  gd t16 true (boI .add t19 (.int .i64 1)) (fun t20 _ =>
  gd t16 true (ixs 1 t18 t20) (fun t21 _ =>
  gd t16 true (ld1 t21) (fun t22 _ =>
  gd t16 true (fun K w => K t0 w) (fun t23 _ =>
  gd t16 true (fun K w => K t4 w) (fun t24 _ =>
  gd t16 true (ixs 1 t23 t24) (fun t25 _ =>
  gd t16 true (ld1 t25) (fun t26 _ =>
  gd t16 true (boI .gtr t22 t26) (fun t27 _ =>
  pk t16 t27 (.bool false) (fun t28 _ =>
  s70_p5 K B1 t0 t1 t4 t28 w) w0) w0) w0) w0) w0) w0) w0) w0) w0) w0) w0) w0) w0) w0
def s70_p6 (K : Value → World → Prop) (B1 : List Value → World → Prop) (t0 t1 t4 : Value) (w : World) : Prop := s70_p6_d K B1 t0 t1 t4 (drw w) (drw w)
def s70_p6_den (K : Value → World → Prop) (M1 : (Nat → Value) → World → Prop) : (Nat → Value) → World → Prop := denL Try.prog [(cd (Try.f70.body.getD .skip) [0, 0, 0, 1, 1, 0, 0])] (s70_p5_den K M1) (fun i => (bif Nat.beq i 1 then M1 else (bif Nat.beq i 0 then (s70_R K) else (fun _ _ => False)))) (s70_R K)
theorem s70_p6_ok (K : Value → World → Prop) (B1 : List Value → World → Prop) (s : Nat → Value) (w : World) (h : s70_p6 K B1 (s 0) (s 1) (s 4) w) : Tr (s70_p6_den K (fun s w => B1 [s 0, s 1] w) s w) :=
  tr_draw (P := Try.prog) (ops := (ro (cd (Try.f70.body.getD .skip) [0, 0, 0, 1, 1, 0, 0]))) (ms := [0, 1, 0, 4, 15, 31, 63, 63, 191, 511, 1023, 63, 63, 6207, 14399, 32767, 65535]) (cs := [0, 1, 2, 3, 4, 5, 6, 7, 8, 9, 10, 11, 12, 13, 14, 15, 16]) (N := (fun s w => s70_p5 K B1 (s 0) (s 1) (s 4) (s 28) w)) (N' := (s70_p5_den K (fun s w => B1 [s 0, s 1] w))) (s := s) (w := w) (p := s70_p6 K B1 (s 0) (s 1) (s 4) w) (q := s70_p6_den K (fun s w => B1 [s 0, s 1] w) s w) (by kernel_rfl) (by kernel_rfl) (fun s w h => s70_p5_ok K B1 s w @h) (by kernel_rfl) (by kernel_rfl) @h
def s70_p7 (K : Value → World → Prop) (B1 : List Value → World → Prop) (t0 t1 : Value) (w : World) : Prop :=
  boI .mul (.int .i64 2) t1 (fun t6 w =>
  boI .add t6 (.int .i64 1) (fun t7 w =>
  lnS t0 (fun t10 w =>
  boI .geq t7 t10 (fun t11 w =>
  ifb t11
  (K (.tuple #[]) w)
  (s70_p6 K B1 t0 t1 t7 w)) w) w) w) w
def s70_p7_den (K : Value → World → Prop) (M1 : (Nat → Value) → World → Prop) : (Nat → Value) → World → Prop := denL Try.prog [(cd (Try.f70.body.getD .skip) [0, 0, 0, 0]), (cd (Try.f70.body.getD .skip) [0, 0, 0, 1, 0, 0]), (cd (Try.f70.body.getD .skip) [0, 0, 0, 1, 0, 1])] (s70_p6_den K M1) (fun i => (bif Nat.beq i 1 then M1 else (bif Nat.beq i 0 then (s70_R K) else (fun _ _ => False)))) (s70_R K)
theorem s70_p7_ok (K : Value → World → Prop) (B1 : List Value → World → Prop) (s : Nat → Value) (w : World) (h : s70_p7 K B1 (s 0) (s 1) w) : Tr (s70_p7_den K (fun s w => B1 [s 0, s 1] w) s w) :=
  tr_simple (P := Try.prog) (codes := [(cd (Try.f70.body.getD .skip) [0, 0, 0, 0]), (cd (Try.f70.body.getD .skip) [0, 0, 0, 1, 0, 0]), (cd (Try.f70.body.getD .skip) [0, 0, 0, 1, 0, 1])]) (N := (fun s w => s70_p6 K B1 (s 0) (s 1) (s 4) w)) (N' := (s70_p6_den K (fun s w => B1 [s 0, s 1] w))) (X := (fun i => (bif Nat.beq i 1 then (fun s w => B1 [s 0, s 1] w) else (bif Nat.beq i 0 then (s70_R K) else (fun _ _ => False))))) (X' := (fun i => (bif Nat.beq i 1 then (fun s w => B1 [s 0, s 1] w) else (bif Nat.beq i 0 then (s70_R K) else (fun _ _ => False))))) (R := s70_R K) (s := s) (w := w) (p := s70_p7 K B1 (s 0) (s 1) w) (q := s70_p7_den K (fun s w => B1 [s 0, s 1] w) s w) (fun s w h => s70_p6_ok K B1 s w @h) (fun i => (tr_bif tr_id (tr_bif tr_id tr_id))) (by kernel_rfl) (by kernel_rfl) @h
def s70_p8_F (K : Value → World → Prop) (B1 : List Value → World → Prop) (l : List Value) (w : World) : Prop :=
  match l with
  | [t0, t1] => s70_p7 K B1 t0 t1 w
  | _ => False
theorem s70_p8_Fe {K : Value → World → Prop} {B1 : List Value → World → Prop} {t0 t1 : Value} {w : World} : s70_p8_F K B1 [t0, t1] w = s70_p7 K B1 t0 t1 w := by kernel_rfl
def s70_p8 (K : Value → World → Prop) (t0 t1 : Value) (w : World) : Prop :=
  LoopL (s70_p8_F K) [t0, t1] w
def s70_p8_den (K : Value → World → Prop) : (Nat → Value) → World → Prop := fun s w => LoopP (fun M1 s w => s70_p7_den K M1 s w) s w
theorem s70_p8_ok (K : Value → World → Prop) (s : Nat → Value) (w : World) (h : s70_p8 K (s 0) (s 1) w) : Tr (s70_p8_den K s w) :=
  tr_loop (G := fun N' s w => s70_p7_den K N' s w) (F := s70_p8_F K) (sel := fun s => [s 0, s 1]) (s := s) (w := w) (p := s70_p8 K (s 0) (s 1) w) (q := s70_p8_den K s w) (fun B s w h => s70_p7_ok K B s w @h) (by kernel_rfl) (by kernel_rfl) @h
/-- the call, from the text -/
theorem c70 (t0 t1 : Value) {K : Value → World → Prop} {w : World} (h : s70_p8 K t0 t1 w) : cl Try.prog 70 #[t0, t1] K w :=
  calls_of_tr (c := (Try.f70.body.getD .skip)) (fn := Try.f70) (q := s70_p8_den K (st0 #[t0, t1]) w) Try.func70 (by kernel_rfl) (by kernel_rfl) (Nat.le_of_ble_eq_true (by kernel_rfl)) (by kernel_rfl) (by kernel_rfl) (s70_p8_ok K (st0 #[t0, t1]) w @h)

end Go.Proofs.Qxb6500895a
