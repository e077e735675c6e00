import Derived.Test.Qxb6500896aGreatProg
import Derived.Test.Qxb6500896aGreatShTr
namespace Go.Proofs.Qxb6500896aGreat
open Go.Sh Go.RowKit
set_option linter.unusedVariables false
set_option maxRecDepth 100000

/-! ### function 13 : e2e.enginelaw.QuoteForetellsHold -/
def s13_R (K : Value → World → Prop) (s : Nat → Value) (w : World) : Prop := retv Tryz.prog s Tryz.f13.results.toList (fun vs => K (pack vs) w) w
def s13_p1 (K : Value → World → Prop) (w : World) : Prop :=
  K (.bool true) w
def s13_p1_den (K : Value → World → Prop) : (Nat → Value) → World → Prop := denL Tryz.prog [(cd (Tryz.f13.body.getD .skip) [1, 1, 1, 1, 0]), (cd (Tryz.f13.body.getD .skip) [1, 1, 1, 1, 1])] (fun _ _ => False) (fun i => (fun _ _ => False)) (s13_R K)
theorem s13_p1_ok (K : Value → World → Prop) (s : Nat → Value) (w : World) (h : s13_p1 K w) : Tr (s13_p1_den K s w) :=
  tr_simple (P := Tryz.prog) (codes := [(cd (Tryz.f13.body.getD .skip) [1, 1, 1, 1, 0]), (cd (Tryz.f13.body.getD .skip) [1, 1, 1, 1, 1])]) (N := (fun _ _ => False)) (N' := (fun _ _ => False)) (X := (fun i => (fun _ _ => False))) (X' := (fun i => (fun _ _ => False))) (R := s13_R K) (s := s) (w := w) (p := s13_p1 K w) (q := s13_p1_den K s w) tr_id (fun i => tr_id) (by kernel_rfl) (by kernel_rfl) @h
def s13_p2 (K : Value → World → Prop) (B1 : List Value → World → Prop) (t3 t14 t15 t16 : Value) (w : World) : Prop :=
  boI .add t16 (.int .i64 1) (fun t57 w =>
  B1 [t3, t14, t15, t57] w) w
def s13_p2_den (K : Value → World → Prop) (M1 : (Nat → Value) → World → Prop) : (Nat → Value) → World → Prop := denL Tryz.prog [(cd (Tryz.f13.body.getD .skip) [1, 1, 1, 0, 1, 0, 0, 1, 1, 1])] M1 (fun i => (bif Nat.beq i 0 then (s13_p1_den K) else (fun _ _ => False))) (s13_R K)
theorem s13_p2_ok (K : Value → World → Prop) (B1 : List Value → World → Prop) (s : Nat → Value) (w : World) (h : s13_p2 K B1 (s 3) (s 14) (s 15) (s 16) w) : Tr (s13_p2_den K (fun s w => B1 [s 3, s 14, s 15, s 16] w) s w) :=
  tr_simple (P := Tryz.prog) (codes := [(cd (Tryz.f13.body.getD .skip) [1, 1, 1, 0, 1, 0, 0, 1, 1, 1])]) (N := (fun s w => B1 [s 3, s 14, s 15, s 16] w)) (N' := (fun s w => B1 [s 3, s 14, s 15, s 16] w)) (X := (fun i => (bif Nat.beq i 0 then (fun s w => s13_p1 K w) else (fun _ _ => False)))) (X' := (fun i => (bif Nat.beq i 0 then (s13_p1_den K) else (fun _ _ => False)))) (R := s13_R K) (s := s) (w := w) (p := s13_p2 K B1 (s 3) (s 14) (s 15) (s 16) w) (q := s13_p2_den K (fun s w => B1 [s 3, s 14, s 15, s 16] w) s w) tr_id (fun i => (tr_bif (fun s w h => s13_p1_ok K s w @h) tr_id)) (by kernel_rfl) (by kernel_rfl) @h
def s13_p3 (K : Value → World → Prop) (B1 : List Value → World → Prop) (t3 t14 t15 t16 : Value) (w : World) : Prop :=
  boI .lss t16 t15 (fun t17 w =>
  ifb t17
  (ixs 4 t14 t16 (fun t18 w =>
  ldn 4 t18 (fun t19 w =>
  nw 39 #[(.int .i64 0), (.slice none 0 0), (.int .i64 0), (.int .i64 0)] (fun t5 w =>
  stn 4 t5 t19 (fun w =>
  ldn 4 t5 (fun t20 w =>
  cl Tryz.prog 22 #[t20] (fun t21 w =>
  un .not t21 (fun t22 w =>
  ifb t22
  (s13_p2 K B1 t3 t14 t15 t16 w)
  (fd 1 t5 (fun t24 w =>
  ld1 t24 (fun t25 w =>
  cl Tryz.prog 28 #[t25] (fun t26 w =>
  exq t26 0 (fun t27 w =>
  exq t26 1 (fun t28 w =>
  nw 52 #[(.int .u8 0), (.int .i64 0), (.int .i64 0), (.int .i64 0), (.int .i64 0), (.int .i64 0), (.int .i64 0), (.slice none 0 0)] (fun t6 w =>
  stn 8 t6 t27 (fun w =>
  boI .neq t28 (.int .i64 0) (fun t30 w =>
  gd t30 false (fd 0 t6) (fun t32 w =>
  gd t30 false (ld1 t32) (fun t33 w =>
  gd t30 false (boI .neq t33 (.int .u8 1)) (fun t34 w =>
  pk t30 (.bool true) t34 (fun t35 w =>
  ifb t35
  (fd 1 t5 (fun t37 w =>
  ld1 t37 (fun t38 w =>
  cl Tryz.prog 24 #[t3, t38] (fun t39 w =>
  s13_p2 K B1 t3 t14 t15 t16 w) w) w) w)
  (fd 0 t6 (fun t40 w =>
  st1 t40 (.int .u8 22) (fun w =>
  ldn 8 t6 (fun t42 w =>
  cl Tryz.prog 57 #[t42] (fun t43 w =>
  cl Tryz.prog 24 #[t3, t43] (fun t44 w =>
  lnS t44 (fun t46 w =>
  boI .gtr t46 (.int .i64 1) (fun t47 w =>
  ifb t47
  (ixs 1 t44 (.int .i64 1) (fun t49 w =>
  st1 t49 (.int .u8 1) (fun w =>
  fd 1 t5 (fun t52 w =>
  ld1 t52 (fun t53 w =>
  cl Tryz.prog 24 #[t3, t53] (fun t54 w =>
  cl Tryz.prog 23 #[t44, t54] (fun t55 w =>
  un .not t55 (fun t56 w =>
  ifb t56
  (K (.bool false) w)
  (s13_p2 K B1 t3 t14 t15 t16 w)) w) w) w) w) w) w) w)
  (fd 1 t5 (fun t52_2 w =>
  ld1 t52_2 (fun t53_2 w =>
  cl Tryz.prog 24 #[t3, t53_2] (fun t54_2 w =>
  cl Tryz.prog 23 #[t44, t54_2] (fun t55_2 w =>
  un .not t55_2 (fun t56_2 w =>
  ifb t56_2
  (K (.bool false) w)
  (s13_p2 K B1 t3 t14 t15 t16 w)) w) w) w) w) w)) w) w) w) w) w) w) w)) w) w) w) w) w) w) w) w) w) w) w) w)) w) w) w) w) w) w) w)
  (s13_p1 K w)) w
def s13_p3_den (K : Value → World → Prop) (M1 : (Nat → Value) → World → Prop) : (Nat → Value) → World → Prop := denL Tryz.prog [(cd (Tryz.f13.body.getD .skip) [1, 1, 1, 0, 1, 0, 0, 0]), (cd (Tryz.f13.body.getD .skip) [1, 1, 1, 0, 1, 0, 0, 1, 0]), (cd (Tryz.f13.body.getD .skip) [1, 1, 1, 0, 1, 0, 0, 1, 1, 0])] (s13_p2_den K M1) (fun i => (bif Nat.beq i 0 then (s13_p1_den K) else (fun _ _ => False))) (s13_R K)
theorem s13_p3_ok (K : Value → World → Prop) (B1 : List Value → World → Prop) (s : Nat → Value) (w : World) (h : s13_p3 K B1 (s 3) (s 14) (s 15) (s 16) w) : Tr (s13_p3_den K (fun s w => B1 [s 3, s 14, s 15, s 16] w) s w) :=
  tr_simple (P := Tryz.prog) (codes := [(cd (Tryz.f13.body.getD .skip) [1, 1, 1, 0, 1, 0, 0, 0]), (cd (Tryz.f13.body.getD .skip) [1, 1, 1, 0, 1, 0, 0, 1, 0]), (cd (Tryz.f13.body.getD .skip) [1, 1, 1, 0, 1, 0, 0, 1, 1, 0])]) (N := (fun s w => s13_p2 K B1 (s 3) (s 14) (s 15) (s 16) w)) (N' := (s13_p2_den K (fun s w => B1 [s 3, s 14, s 15, s 16] w))) (X := (fun i => (bif Nat.beq i 0 then (fun s w => s13_p1 K w) else (fun _ _ => False)))) (X' := (fun i => (bif Nat.beq i 0 then (s13_p1_den K) else (fun _ _ => False)))) (R := s13_R K) (s := s) (w := w) (p := s13_p3 K B1 (s 3) (s 14) (s 15) (s 16) w) (q := s13_p3_den K (fun s w => B1 [s 3, s 14, s 15, s 16] w) s w) (fun s w h => s13_p2_ok K B1 s w @h) (fun i => (tr_bif (fun s w h => s13_p1_ok K s w @h) tr_id)) (by kernel_rfl) (by kernel_rfl) @h
def s13_p4_F (K : Value → World → Prop) (B1 : List Value → World → Prop) (l : List Value) (w : World) : Prop :=
  match l with
  | [t3, t14, t15, t16] => s13_p3 K B1 t3 t14 t15 t16 w
  | _ => False
theorem s13_p4_Fe {K : Value → World → Prop} {B1 : List Value → World → Prop} {t3 t14 t15 t16 : Value} {w : World} : s13_p4_F K B1 [t3, t14, t15, t16] w = s13_p3 K B1 t3 t14 t15 t16 w := by kernel_rfl
def s13_p4 (K : Value → World → Prop) (t3 t14 t15 t16 : Value) (w : World) : Prop :=
  LoopL (s13_p4_F K) [t3, t14, t15, t16] w
def s13_p4_den (K : Value → World → Prop) : (Nat → Value) → World → Prop := fun s w => LoopP (fun M1 s w => s13_p3_den K M1 s w) s w
theorem s13_p4_ok (K : Value → World → Prop) (s : Nat → Value) (w : World) (h : s13_p4 K (s 3) (s 14) (s 15) (s 16) w) : Tr (s13_p4_den K s w) :=
  tr_loop (G := fun N' s w => s13_p3_den K N' s w) (F := s13_p4_F K) (sel := fun s => [s 3, s 14, s 15, s 16]) (s := s) (w := w) (p := s13_p4 K (s 3) (s 14) (s 15) (s 16) w) (q := s13_p4_den K s w) (fun B s w h => s13_p3_ok K B s w @h) (by kernel_rfl) (by kernel_rfl) @h
def s13_p5 (K : Value → World → Prop) (t0 : Value) (w : World) : Prop :=
  cl Tryz.prog 17 #[t0] (fun t10 w =>
  un .not t10 (fun t11 w =>
  ifb t11
  (K (.bool true) w)
  (cl Tryz.prog 19 #[] (fun t12 w =>
  cl Tryz.prog 18 #[t12] (fun t13 w =>
  lnS t0 (fun t15 w =>
  s13_p4 K t13 t0 t15 (.int .i64 0) w) w) w) w)) w) w
def s13_p5_den (K : Value → World → Prop) : (Nat → Value) → World → Prop := denL Tryz.prog [(cd (Tryz.f13.body.getD .skip) [0]), (cd (Tryz.f13.body.getD .skip) [1, 0, 0]), (cd (Tryz.f13.body.getD .skip) [1, 0, 1]), (cd (Tryz.f13.body.getD .skip) [1, 1, 0]), (cd (Tryz.f13.body.getD .skip) [1, 1, 1, 0, 0])] (s13_p4_den K) (fun i => (fun _ _ => False)) (s13_R K)
theorem s13_p5_ok (K : Value → World → Prop) (s : Nat → Value) (w : World) (h : s13_p5 K (s 0) w) : Tr (s13_p5_den K s w) :=
  tr_simple (P := Tryz.prog) (codes := [(cd (Tryz.f13.body.getD .skip) [0]), (cd (Tryz.f13.body.getD .skip) [1, 0, 0]), (cd (Tryz.f13.body.getD .skip) [1, 0, 1]), (cd (Tryz.f13.body.getD .skip) [1, 1, 0]), (cd (Tryz.f13.body.getD .skip) [1, 1, 1, 0, 0])]) (N := (fun s w => s13_p4 K (s 3) (s 14) (s 15) (s 16) w)) (N' := (s13_p4_den K)) (X := (fun i => (fun _ _ => False))) (X' := (fun i => (fun _ _ => False))) (R := s13_R K) (s := s) (w := w) (p := s13_p5 K (s 0) w) (q := s13_p5_den K s w) (fun s w h => s13_p4_ok K s w @h) (fun i => tr_id) (by kernel_rfl) (by kernel_rfl) @h
/-- the call, from the text -/
theorem c13 (t0 : Value) {K : Value → World → Prop} {w : World} (h : s13_p5 K t0 w) : cl Tryz.prog 13 #[t0] K w :=
  calls_of_tr (c := (Tryz.f13.body.getD .skip)) (fn := Tryz.f13) (q := s13_p5_den K (st0 #[t0]) w) Tryz.func13 (by kernel_rfl) (by kernel_rfl) (Nat.le_of_ble_eq_true (by kernel_rfl)) (by kernel_rfl) (by kernel_rfl) (s13_p5_ok K (st0 #[t0]) w @h)

end Go.Proofs.Qxb6500896aGreat
