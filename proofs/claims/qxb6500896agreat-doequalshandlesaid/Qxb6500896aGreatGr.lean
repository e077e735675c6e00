import Derived.Test.Qxb6500896aGreatProg
import Derived.Test.Qxb6500896aGreatShTr
namespace Go.Proofs.Qxb6500896aGreat
open Go.Sh Go.RowKit
set_option linter.unusedVariables false
set_option maxRecDepth 100000

/-! ### function 4 : e2e.enginelaw.RefusedChangesNothing -/
def s4_R (K : Value → World → Prop) (s : Nat → Value) (w : World) : Prop := retv Tryz.prog s Tryz.f4.results.toList (fun vs => K (pack vs) w) w
def s4_p1 (K : Value → World → Prop) (w : World) : Prop :=
  K (.bool true) w
def s4_p1_den (K : Value → World → Prop) : (Nat → Value) → World → Prop := denL Tryz.prog [(cd (Tryz.f4.body.getD .skip) [1, 1, 1, 1, 0]), (cd (Tryz.f4.body.getD .skip) [1, 1, 1, 1, 1])] (fun _ _ => False) (fun i => (fun _ _ => False)) (s4_R K)
theorem s4_p1_ok (K : Value → World → Prop) (s : Nat → Value) (w : World) (h : s4_p1 K w) : Tr (s4_p1_den K s w) :=
  tr_simple (P := Tryz.prog) (codes := [(cd (Tryz.f4.body.getD .skip) [1, 1, 1, 1, 0]), (cd (Tryz.f4.body.getD .skip) [1, 1, 1, 1, 1])]) (N := (fun _ _ => False)) (N' := (fun _ _ => False)) (X := (fun i => (fun _ _ => False))) (X' := (fun i => (fun _ _ => False))) (R := s4_R K) (s := s) (w := w) (p := s4_p1 K w) (q := s4_p1_den K s w) tr_id (fun i => tr_id) (by kernel_rfl) (by kernel_rfl) @h
def s4_p2 (K : Value → World → Prop) (B1 : List Value → World → Prop) (t3 t16 t17 t18 : Value) (w : World) : Prop :=
  boI .add t18 (.int .i64 1) (fun t79 w =>
  B1 [t3, t16, t17, t79] w) w
def s4_p2_den (K : Value → World → Prop) (M1 : (Nat → Value) → World → Prop) : (Nat → Value) → World → Prop := denL Tryz.prog [(cd (Tryz.f4.body.getD .skip) [1, 1, 1, 0, 1, 0, 0, 1, 1, 1])] M1 (fun i => (bif Nat.beq i 0 then (s4_p1_den K) else (fun _ _ => False))) (s4_R K)
theorem s4_p2_ok (K : Value → World → Prop) (B1 : List Value → World → Prop) (s : Nat → Value) (w : World) (h : s4_p2 K B1 (s 3) (s 16) (s 17) (s 18) w) : Tr (s4_p2_den K (fun s w => B1 [s 3, s 16, s 17, s 18] w) s w) :=
  tr_simple (P := Tryz.prog) (codes := [(cd (Tryz.f4.body.getD .skip) [1, 1, 1, 0, 1, 0, 0, 1, 1, 1])]) (N := (fun s w => B1 [s 3, s 16, s 17, s 18] w)) (N' := (fun s w => B1 [s 3, s 16, s 17, s 18] w)) (X := (fun i => (bif Nat.beq i 0 then (fun s w => s4_p1 K w) else (fun _ _ => False)))) (X' := (fun i => (bif Nat.beq i 0 then (s4_p1_den K) else (fun _ _ => False)))) (R := s4_R K) (s := s) (w := w) (p := s4_p2 K B1 (s 3) (s 16) (s 17) (s 18) w) (q := s4_p2_den K (fun s w => B1 [s 3, s 16, s 17, s 18] w) s w) tr_id (fun i => (tr_bif (fun s w h => s4_p1_ok K s w @h) tr_id)) (by kernel_rfl) (by kernel_rfl) @h
def s4_p3 (K : Value → World → Prop) (B1 : List Value → World → Prop) (t3 t16 t17 t18 : Value) (w : World) : Prop :=
  boI .lss t18 t17 (fun t19 w =>
  ifb t19
  (ixs 4 t16 t18 (fun t20 w =>
  ldn 4 t20 (fun t21 w =>
  nw 39 #[(.int .i64 0), (.slice none 0 0), (.int .i64 0), (.int .i64 0)] (fun t5 w =>
  stn 4 t5 t21 (fun w =>
  ldn 4 t5 (fun t22 w =>
  cl Tryz.prog 22 #[t22] (fun t23 w =>
  un .not t23 (fun t24 w =>
  ifb t24
  (s4_p2 K B1 t3 t16 t17 t18 w)
  (nck t3 (fun t26 w =>
  fd 1 t26 (fun t27 w =>
  ld1 t27 (fun t28 w =>
  cl Tryz.prog 27 #[t28] (fun t29 w =>
  cl Tryz.prog 26 #[(.func (.func 24) #[t3] #[])] (fun t32 w =>
  fd 1 t5 (fun t34 w =>
  ld1 t34 (fun t35 w =>
  cl Tryz.prog 24 #[t3, t35] (fun t36 w =>
  fd 1 t5 (fun t38 w =>
  ld1 t38 (fun t39 w =>
  cl Tryz.prog 28 #[t39] (fun t40 w =>
  exq t40 0 (fun t41 w =>
  exq t40 1 (fun t42 w =>
  nw 52 #[(.int .u8 0), (.int .i64 0), (.int .i64 0), (.int .i64 0), (.int .i64 0), (.int .i64 0), (.int .i64 0), (.slice none 0 0)] (fun t9 w =>
  stn 8 t9 t41 (fun w =>
  boI .eql t42 (.int .i64 0) (fun t44 w =>
  gd t44 true (fd 0 t9) (fun t46 w =>
  gd t44 true (ld1 t46) (fun t47 w =>
  gd t44 true (boI .eql t47 (.int .u8 9)) (fun t48 w =>
  pk t44 t48 (.bool false) (fun t49 w =>
  gd t49 true (fun K w => K t29 w) (fun t51 w =>
  gd t49 true (cl Tryz.prog 21 #[]) (fun t52 w =>
  gd t49 true (fi Tryz.prog 34 t52 3) (fun t53 w =>
  gd t49 true (boI .eql t51 t53) (fun t54 w =>
  pk t49 t54 (.bool false) (fun t55 w =>
  gd t55 true (fun K w => K t36 w) (fun t57 w =>
  gd t55 true (cl Tryz.prog 29 #[t57]) (fun t58 w =>
  gd t55 true (boI .neq t58 (.int .i64 11)) (fun t59 w =>
  pk t55 t59 (.bool false) (fun t60 w =>
  ifb t60
  (K (.bool false) w)
  (cl Tryz.prog 29 #[t36] (fun t62 w =>
  boI .eql t62 (.int .i64 0) (fun t63 w =>
  gd t63 true (fun K w => K t42 w) (fun t65 w =>
  gd t63 true (boI .eql t65 (.int .i64 0)) (fun t66 w =>
  pk t63 t66 (.bool false) (fun t67 w =>
  gd t67 true (fd 0 t9) (fun t69 w =>
  gd t67 true (ld1 t69) (fun t70 w =>
  gd t67 true (cl Tryz.prog 30 #[t70]) (fun t71 w =>
  pk t67 t71 (.bool false) (fun t72 w =>
  ifb t72
  (s4_p2 K B1 t3 t16 t17 t18 w)
  (cl Tryz.prog 26 #[(.func (.func 24) #[t3] #[])] (fun t76 w =>
  cl Tryz.prog 23 #[t32, t76] (fun t77 w =>
  un .not t77 (fun t78 w =>
  ifb t78
  (K (.bool false) w)
  (s4_p2 K B1 t3 t16 t17 t18 w)) w) w) w)) w) w) w) w) w) w) w) w) w)) w) w) w) w) w) w) w) w) w) w) w) w) w) w) w) w) w) w) w) w) w) w) w) w) w) w) w) w) w)) w) w) w) w) w) w) w)
  (s4_p1 K w)) w
def s4_p3_den (K : Value → World → Prop) (M1 : (Nat → Value) → World → Prop) : (Nat → Value) → World → Prop := denL Tryz.prog [(cd (Tryz.f4.body.getD .skip) [1, 1, 1, 0, 1, 0, 0, 0]), (cd (Tryz.f4.body.getD .skip) [1, 1, 1, 0, 1, 0, 0, 1, 0]), (cd (Tryz.f4.body.getD .skip) [1, 1, 1, 0, 1, 0, 0, 1, 1, 0])] (s4_p2_den K M1) (fun i => (bif Nat.beq i 0 then (s4_p1_den K) else (fun _ _ => False))) (s4_R K)
theorem s4_p3_ok (K : Value → World → Prop) (B1 : List Value → World → Prop) (s : Nat → Value) (w : World) (h : s4_p3 K B1 (s 3) (s 16) (s 17) (s 18) w) : Tr (s4_p3_den K (fun s w => B1 [s 3, s 16, s 17, s 18] w) s w) :=
  tr_simple (P := Tryz.prog) (codes := [(cd (Tryz.f4.body.getD .skip) [1, 1, 1, 0, 1, 0, 0, 0]), (cd (Tryz.f4.body.getD .skip) [1, 1, 1, 0, 1, 0, 0, 1, 0]), (cd (Tryz.f4.body.getD .skip) [1, 1, 1, 0, 1, 0, 0, 1, 1, 0])]) (N := (fun s w => s4_p2 K B1 (s 3) (s 16) (s 17) (s 18) w)) (N' := (s4_p2_den K (fun s w => B1 [s 3, s 16, s 17, s 18] w))) (X := (fun i => (bif Nat.beq i 0 then (fun s w => s4_p1 K w) else (fun _ _ => False)))) (X' := (fun i => (bif Nat.beq i 0 then (s4_p1_den K) else (fun _ _ => False)))) (R := s4_R K) (s := s) (w := w) (p := s4_p3 K B1 (s 3) (s 16) (s 17) (s 18) w) (q := s4_p3_den K (fun s w => B1 [s 3, s 16, s 17, s 18] w) s w) (fun s w h => s4_p2_ok K B1 s w @h) (fun i => (tr_bif (fun s w h => s4_p1_ok K s w @h) tr_id)) (by kernel_rfl) (by kernel_rfl) @h
def s4_p4_F (K : Value → World → Prop) (B1 : List Value → World → Prop) (l : List Value) (w : World) : Prop :=
  match l with
  | [t3, t16, t17, t18] => s4_p3 K B1 t3 t16 t17 t18 w
  | _ => False
theorem s4_p4_Fe {K : Value → World → Prop} {B1 : List Value → World → Prop} {t3 t16 t17 t18 : Value} {w : World} : s4_p4_F K B1 [t3, t16, t17, t18] w = s4_p3 K B1 t3 t16 t17 t18 w := by kernel_rfl
def s4_p4 (K : Value → World → Prop) (t3 t16 t17 t18 : Value) (w : World) : Prop :=
  LoopL (s4_p4_F K) [t3, t16, t17, t18] w
def s4_p4_den (K : Value → World → Prop) : (Nat → Value) → World → Prop := fun s w => LoopP (fun M1 s w => s4_p3_den K M1 s w) s w
theorem s4_p4_ok (K : Value → World → Prop) (s : Nat → Value) (w : World) (h : s4_p4 K (s 3) (s 16) (s 17) (s 18) w) : Tr (s4_p4_den K s w) :=
  tr_loop (G := fun N' s w => s4_p3_den K N' s w) (F := s4_p4_F K) (sel := fun s => [s 3, s 16, s 17, s 18]) (s := s) (w := w) (p := s4_p4 K (s 3) (s 16) (s 17) (s 18) w) (q := s4_p4_den K s w) (fun B s w h => s4_p3_ok K B s w @h) (by kernel_rfl) (by kernel_rfl) @h
def s4_p5 (K : Value → World → Prop) (t0 : Value) (w : World) : Prop :=
  cl Tryz.prog 17 #[t0] (fun t12 w =>
  un .not t12 (fun t13 w =>
  ifb t13
  (K (.bool true) w)
  (cl Tryz.prog 19 #[] (fun t14 w =>
  cl Tryz.prog 18 #[t14] (fun t15 w =>
  lnS t0 (fun t17 w =>
  s4_p4 K t15 t0 t17 (.int .i64 0) w) w) w) w)) w) w
def s4_p5_den (K : Value → World → Prop) : (Nat → Value) → World → Prop := denL Tryz.prog [(cd (Tryz.f4.body.getD .skip) [0]), (cd (Tryz.f4.body.getD .skip) [1, 0, 0]), (cd (Tryz.f4.body.getD .skip) [1, 0, 1]), (cd (Tryz.f4.body.getD .skip) [1, 1, 0]), (cd (Tryz.f4.body.getD .skip) [1, 1, 1, 0, 0])] (s4_p4_den K) (fun i => (fun _ _ => False)) (s4_R K)
theorem s4_p5_ok (K : Value → World → Prop) (s : Nat → Value) (w : World) (h : s4_p5 K (s 0) w) : Tr (s4_p5_den K s w) :=
  tr_simple (P := Tryz.prog) (codes := [(cd (Tryz.f4.body.getD .skip) [0]), (cd (Tryz.f4.body.getD .skip) [1, 0, 0]), (cd (Tryz.f4.body.getD .skip) [1, 0, 1]), (cd (Tryz.f4.body.getD .skip) [1, 1, 0]), (cd (Tryz.f4.body.getD .skip) [1, 1, 1, 0, 0])]) (N := (fun s w => s4_p4 K (s 3) (s 16) (s 17) (s 18) w)) (N' := (s4_p4_den K)) (X := (fun i => (fun _ _ => False))) (X' := (fun i => (fun _ _ => False))) (R := s4_R K) (s := s) (w := w) (p := s4_p5 K (s 0) w) (q := s4_p5_den K s w) (fun s w h => s4_p4_ok K s w @h) (fun i => tr_id) (by kernel_rfl) (by kernel_rfl) @h
/-- the call, from the text -/
theorem c4 (t0 : Value) {K : Value → World → Prop} {w : World} (h : s4_p5 K t0 w) : cl Tryz.prog 4 #[t0] K w :=
  calls_of_tr (c := (Tryz.f4.body.getD .skip)) (fn := Tryz.f4) (q := s4_p5_den K (st0 #[t0]) w) Tryz.func4 (by kernel_rfl) (by kernel_rfl) (Nat.le_of_ble_eq_true (by kernel_rfl)) (by kernel_rfl) (by kernel_rfl) (s4_p5_ok K (st0 #[t0]) w @h)

end Go.Proofs.Qxb6500896aGreat
