import Derived.Test.Qxb6500896aGreatProg
import Derived.Test.Qxb6500896aGreatShTr
namespace Go.Proofs.Qxb6500896aGreat
open Go.Sh Go.RowKit
set_option linter.unusedVariables false
set_option maxRecDepth 100000

/-! ### function 16 : e2e.enginelaw.ConfigIsChecked -/
def s16_R (K : Value → World → Prop) (s : Nat → Value) (w : World) : Prop := retv Tryz.prog s Tryz.f16.results.toList (fun vs => K (pack vs) w) w
def s16_p1 (K : Value → World → Prop) (w : World) : Prop :=
  cl Tryz.prog 21 #[] (fun t37 w =>
  cl Tryz.prog 38 #[t37, (.pointer none)] (fun t38 w =>
  exq t38 0 (fun t39 w =>
  exq t38 1 (fun t40 w =>
  boP .neq t39 (.pointer none) (fun t42 w =>
  gd t42 false (fun K w => K t40 w) (fun t44 w =>
  gd t42 false (cl Tryz.prog 51 #[t44]) (fun t45 w =>
  gd t42 false (boI .neq t45 (.int .i64 21)) (fun t46 w =>
  pk t42 (.bool true) t46 (fun t47 w =>
  ifb t47
  (K (.bool false) w)
  (cl Tryz.prog 21 #[] (fun t49 w =>
  cl Tryz.prog 19 #[] (fun t50 w =>
  cl Tryz.prog 82 #[t50] (fun t51 w =>
  cl Tryz.prog 38 #[t49, t51] (fun t52 w =>
  exq t52 0 (fun t53 w =>
  exq t52 1 (fun t54 w =>
  boF Tryz.prog true .eql t54 .nilIface (fun t56 w =>
  gd t56 true (fun K w => K t53 w) (fun t58 w =>
  gd t56 true (cl Tryz.prog 27 #[t58]) (fun t59 w =>
  gd t56 true (boI .eql t59 (.int .i64 0)) (fun t60 w =>
  pk t56 t60 (.bool false) (fun t61 w =>
  gd t61 true (fun K w => K t53 w) (fun t63 w =>
  gd t61 true (cl Tryz.prog 36 #[t63]) (fun t64 w =>
  pk t61 t64 (.bool false) (fun t65 w =>
  K t65 w) w) w) w) w) w) w) w) w) w) w) w) w) w) w)) w) w) w) w) w) w) w) w) w
def s16_p1_den (K : Value → World → Prop) : (Nat → Value) → World → Prop := denL Tryz.prog [(cd (Tryz.f16.body.getD .skip) [1, 1, 1, 0, 0]), (cd (Tryz.f16.body.getD .skip) [1, 1, 1, 0, 1, 0]), (cd (Tryz.f16.body.getD .skip) [1, 1, 1, 0, 1, 1]), (cd (Tryz.f16.body.getD .skip) [1, 1, 1, 1, 0]), (cd (Tryz.f16.body.getD .skip) [1, 1, 1, 1, 1, 0]), (cd (Tryz.f16.body.getD .skip) [1, 1, 1, 1, 1, 1])] (fun _ _ => False) (fun i => (fun _ _ => False)) (s16_R K)
theorem s16_p1_ok (K : Value → World → Prop) (s : Nat → Value) (w : World) (h : s16_p1 K w) : Tr (s16_p1_den K s w) :=
  tr_simple (P := Tryz.prog) (codes := [(cd (Tryz.f16.body.getD .skip) [1, 1, 1, 0, 0]), (cd (Tryz.f16.body.getD .skip) [1, 1, 1, 0, 1, 0]), (cd (Tryz.f16.body.getD .skip) [1, 1, 1, 0, 1, 1]), (cd (Tryz.f16.body.getD .skip) [1, 1, 1, 1, 0]), (cd (Tryz.f16.body.getD .skip) [1, 1, 1, 1, 1, 0]), (cd (Tryz.f16.body.getD .skip) [1, 1, 1, 1, 1, 1])]) (N := (fun _ _ => False)) (N' := (fun _ _ => False)) (X := (fun i => (fun _ _ => False))) (X' := (fun i => (fun _ _ => False))) (R := s16_R K) (s := s) (w := w) (p := s16_p1 K w) (q := s16_p1_den K s w) tr_id (fun i => tr_id) (by kernel_rfl) (by kernel_rfl) @h
def s16_p2 (K : Value → World → Prop) (B1 : List Value → World → Prop) (t12 t13 t14 : Value) (w : World) : Prop :=
  boI .add t14 (.int .i64 1) (fun t35 w =>
  B1 [t12, t13, t35] w) w
def s16_p2_den (K : Value → World → Prop) (M1 : (Nat → Value) → World → Prop) : (Nat → Value) → World → Prop := denL Tryz.prog [(cd (Tryz.f16.body.getD .skip) [1, 1, 0, 1, 0, 0, 1, 1, 1])] M1 (fun i => (bif Nat.beq i 0 then (s16_p1_den K) else (fun _ _ => False))) (s16_R K)
theorem s16_p2_ok (K : Value → World → Prop) (B1 : List Value → World → Prop) (s : Nat → Value) (w : World) (h : s16_p2 K B1 (s 12) (s 13) (s 14) w) : Tr (s16_p2_den K (fun s w => B1 [s 12, s 13, s 14] w) s w) :=
  tr_simple (P := Tryz.prog) (codes := [(cd (Tryz.f16.body.getD .skip) [1, 1, 0, 1, 0, 0, 1, 1, 1])]) (N := (fun s w => B1 [s 12, s 13, s 14] w)) (N' := (fun s w => B1 [s 12, s 13, s 14] w)) (X := (fun i => (bif Nat.beq i 0 then (fun s w => s16_p1 K w) else (fun _ _ => False)))) (X' := (fun i => (bif Nat.beq i 0 then (s16_p1_den K) else (fun _ _ => False)))) (R := s16_R K) (s := s) (w := w) (p := s16_p2 K B1 (s 12) (s 13) (s 14) w) (q := s16_p2_den K (fun s w => B1 [s 12, s 13, s 14] w) s w) tr_id (fun i => (tr_bif (fun s w h => s16_p1_ok K s w @h) tr_id)) (by kernel_rfl) (by kernel_rfl) @h
def s16_p3 (K : Value → World → Prop) (B1 : List Value → World → Prop) (t5 t6 t12 t13 t14 : Value) (w : World) : Prop :=
  boP .neq t5 (.pointer none) (fun t29 w =>
  gd t29 false (fun K w => K t6 w) (fun t31 w =>
  gd t29 false (cl Tryz.prog 51 #[t31]) (fun t32 w =>
  gd t29 false (boI .neq t32 (.int .i64 21)) (fun t33 w =>
  pk t29 (.bool true) t33 (fun t34 w =>
  ifb t34
  (K (.bool false) w)
  (s16_p2 K B1 t12 t13 t14 w)) w) w) w) w) w
def s16_p3_den (K : Value → World → Prop) (M1 : (Nat → Value) → World → Prop) : (Nat → Value) → World → Prop := denL Tryz.prog [(cd (Tryz.f16.body.getD .skip) [1, 1, 0, 1, 0, 0, 1, 1, 0, 0, 1, 1, 1, 1, 0]), (cd (Tryz.f16.body.getD .skip) [1, 1, 0, 1, 0, 0, 1, 1, 0, 0, 1, 1, 1, 1, 1])] (s16_p2_den K M1) (fun i => (bif Nat.beq i 1 then (s16_p2_den K M1) else (bif Nat.beq i 0 then (s16_p1_den K) else (fun _ _ => False)))) (s16_R K)
theorem s16_p3_ok (K : Value → World → Prop) (B1 : List Value → World → Prop) (s : Nat → Value) (w : World) (h : s16_p3 K B1 (s 5) (s 6) (s 12) (s 13) (s 14) w) : Tr (s16_p3_den K (fun s w => B1 [s 12, s 13, s 14] w) s w) :=
  tr_simple (P := Tryz.prog) (codes := [(cd (Tryz.f16.body.getD .skip) [1, 1, 0, 1, 0, 0, 1, 1, 0, 0, 1, 1, 1, 1, 0]), (cd (Tryz.f16.body.getD .skip) [1, 1, 0, 1, 0, 0, 1, 1, 0, 0, 1, 1, 1, 1, 1])]) (N := (fun s w => s16_p2 K B1 (s 12) (s 13) (s 14) w)) (N' := (s16_p2_den K (fun s w => B1 [s 12, s 13, s 14] w))) (X := (fun i => (bif Nat.beq i 1 then (fun s w => s16_p2 K B1 (s 12) (s 13) (s 14) w) else (bif Nat.beq i 0 then (fun s w => s16_p1 K w) else (fun _ _ => False))))) (X' := (fun i => (bif Nat.beq i 1 then (s16_p2_den K (fun s w => B1 [s 12, s 13, s 14] w)) else (bif Nat.beq i 0 then (s16_p1_den K) else (fun _ _ => False))))) (R := s16_R K) (s := s) (w := w) (p := s16_p3 K B1 (s 5) (s 6) (s 12) (s 13) (s 14) w) (q := s16_p3_den K (fun s w => B1 [s 12, s 13, s 14] w) s w) (fun s w h => s16_p2_ok K B1 s w @h) (fun i => (tr_bif (fun s w h => s16_p2_ok K B1 s w @h) (tr_bif (fun s w h => s16_p1_ok K s w @h) tr_id))) (by kernel_rfl) (by kernel_rfl) @h
def s16_p4_d (K : Value → World → Prop) (B1 : List Value → World → Prop) (t4 t12 t13 t14 : Value) (w0 w : World) : Prop :=
  ldn 14 t4 (fun t22 _ =>
  cl Tryz.prog 19 #[] (fun t23 w =>
  Below w0.heap.size w0 w ∧
  cl Tryz.prog 82 #[t23] (fun t24 w =>
  Below w0.heap.size w0 w ∧
  cl Tryz.prog 38 #[t22, t24] (fun t25 w =>
  (exq t25 0 (fun t26 w =>
  (exq t25 1 (fun t27 w =>
  s16_p3 K B1 t26 t27 t12 t13 t14 w) w) ∧
  (exq t25 1 (fun t27_2 w =>
  s16_p3 K B1 t26 t27_2 t12 t13 t14 w) w)) w) ∧
  (exq t25 1 (fun t27_3 w =>
  exq t25 0 (fun t26_2 w =>
  s16_p3 K B1 t26_2 t27_3 t12 t13 t14 w) w) w)) w) w) w) w0
def s16_p4 (K : Value → World → Prop) (B1 : List Value → World → Prop) (t4 t12 t13 t14 : Value) (w : World) : Prop := s16_p4_d K B1 t4 t12 t13 t14 (drw w) (drw w)
def s16_p4_den (K : Value → World → Prop) (M1 : (Nat → Value) → World → Prop) : (Nat → Value) → World → Prop := denL Tryz.prog [(cd (Tryz.f16.body.getD .skip) [1, 1, 0, 1, 0, 0, 1, 1, 0, 0, 1, 1, 1, 0])] (s16_p3_den K M1) (fun i => (bif Nat.beq i 1 then (s16_p2_den K M1) else (bif Nat.beq i 0 then (s16_p1_den K) else (fun _ _ => False)))) (s16_R K)
theorem s16_p4_ok (K : Value → World → Prop) (B1 : List Value → World → Prop) (s : Nat → Value) (w : World) (h : s16_p4 K B1 (s 4) (s 12) (s 13) (s 14) w) : Tr (s16_p4_den K (fun s w => B1 [s 12, s 13, s 14] w) s w) :=
  tr_draw (P := Tryz.prog) (ops := (ro (cd (Tryz.f16.body.getD .skip) [1, 1, 0, 1, 0, 0, 1, 1, 0, 0, 1, 1, 1, 0]))) (ms := [0, 0, 2, 7, 15, 31, 31, 63, 255]) (cs := [0]) (N := (fun s w => s16_p3 K B1 (s 5) (s 6) (s 12) (s 13) (s 14) w)) (N' := (s16_p3_den K (fun s w => B1 [s 12, s 13, s 14] w))) (s := s) (w := w) (p := s16_p4 K B1 (s 4) (s 12) (s 13) (s 14) w) (q := s16_p4_den K (fun s w => B1 [s 12, s 13, s 14] w) s w) (by kernel_rfl) (by kernel_rfl) (fun s w h => s16_p3_ok K B1 s w @h) (by kernel_rfl) (by kernel_rfl) @h
def s16_p5 (K : Value → World → Prop) (B1 : List Value → World → Prop) (t12 t13 t14 : Value) (w : World) : Prop :=
  ixs 1 t12 t14 (fun t16 w =>
  ld1 t16 (fun t17 w =>
  cl Tryz.prog 21 #[] (fun t18 w =>
  nw 34 #[(.slice none 0 0), (.slice none 0 0), (.int .i64 0), (.int .i64 0), (.int .i64 0), (.int .i64 0), (.int .i64 0), (.int .i64 0), (.int .i64 0), (.int .i64 0), (.int .i64 0), (.int .i64 0), (.int .i64 0), (.int .i64 0)] (fun t4 w =>
  stn 14 t4 t18 (fun w =>
  cdy Tryz.prog t17 #[t4] (fun t20 w =>
  s16_p4 K B1 t4 t12 t13 t14 w) w) w) w) w) w) w
def s16_p5_den (K : Value → World → Prop) (M1 : (Nat → Value) → World → Prop) : (Nat → Value) → World → Prop := denL Tryz.prog [(cd (Tryz.f16.body.getD .skip) [1, 1, 0, 1, 0, 0, 1, 1, 0, 0, 0]), (cd (Tryz.f16.body.getD .skip) [1, 1, 0, 1, 0, 0, 1, 1, 0, 0, 1, 0]), (cd (Tryz.f16.body.getD .skip) [1, 1, 0, 1, 0, 0, 1, 1, 0, 0, 1, 1, 0])] (s16_p4_den K M1) (fun i => (bif Nat.beq i 1 then (s16_p2_den K M1) else (bif Nat.beq i 0 then (s16_p1_den K) else (fun _ _ => False)))) (s16_R K)
theorem s16_p5_ok (K : Value → World → Prop) (B1 : List Value → World → Prop) (s : Nat → Value) (w : World) (h : s16_p5 K B1 (s 12) (s 13) (s 14) w) : Tr (s16_p5_den K (fun s w => B1 [s 12, s 13, s 14] w) s w) :=
  tr_simple (P := Tryz.prog) (codes := [(cd (Tryz.f16.body.getD .skip) [1, 1, 0, 1, 0, 0, 1, 1, 0, 0, 0]), (cd (Tryz.f16.body.getD .skip) [1, 1, 0, 1, 0, 0, 1, 1, 0, 0, 1, 0]), (cd (Tryz.f16.body.getD .skip) [1, 1, 0, 1, 0, 0, 1, 1, 0, 0, 1, 1, 0])]) (N := (fun s w => s16_p4 K B1 (s 4) (s 12) (s 13) (s 14) w)) (N' := (s16_p4_den K (fun s w => B1 [s 12, s 13, s 14] w))) (X := (fun i => (bif Nat.beq i 1 then (fun s w => s16_p2 K B1 (s 12) (s 13) (s 14) w) else (bif Nat.beq i 0 then (fun s w => s16_p1 K w) else (fun _ _ => False))))) (X' := (fun i => (bif Nat.beq i 1 then (s16_p2_den K (fun s w => B1 [s 12, s 13, s 14] w)) else (bif Nat.beq i 0 then (s16_p1_den K) else (fun _ _ => False))))) (R := s16_R K) (s := s) (w := w) (p := s16_p5 K B1 (s 12) (s 13) (s 14) w) (q := s16_p5_den K (fun s w => B1 [s 12, s 13, s 14] w) s w) (fun s w h => s16_p4_ok K B1 s w @h) (fun i => (tr_bif (fun s w h => s16_p2_ok K B1 s w @h) (tr_bif (fun s w h => s16_p1_ok K s w @h) tr_id))) (by kernel_rfl) (by kernel_rfl) @h
def s16_p6 (K : Value → World → Prop) (B1 : List Value → World → Prop) (t12 t13 t14 : Value) (w : World) : Prop :=
  boI .lss t14 t13 (fun t15 w =>
  ifb t15
  (s16_p5 K B1 t12 t13 t14 w)
  (s16_p1 K w)) w
def s16_p6_den (K : Value → World → Prop) (M1 : (Nat → Value) → World → Prop) : (Nat → Value) → World → Prop := denL Tryz.prog [(cd (Tryz.f16.body.getD .skip) [1, 1, 0, 1, 0, 0, 0]), (cd (Tryz.f16.body.getD .skip) [1, 1, 0, 1, 0, 0, 1, 0])] (s16_p5_den K M1) (fun i => (bif Nat.beq i 0 then (s16_p1_den K) else (fun _ _ => False))) (s16_R K)
theorem s16_p6_ok (K : Value → World → Prop) (B1 : List Value → World → Prop) (s : Nat → Value) (w : World) (h : s16_p6 K B1 (s 12) (s 13) (s 14) w) : Tr (s16_p6_den K (fun s w => B1 [s 12, s 13, s 14] w) s w) :=
  tr_simple (P := Tryz.prog) (codes := [(cd (Tryz.f16.body.getD .skip) [1, 1, 0, 1, 0, 0, 0]), (cd (Tryz.f16.body.getD .skip) [1, 1, 0, 1, 0, 0, 1, 0])]) (N := (fun s w => s16_p5 K B1 (s 12) (s 13) (s 14) w)) (N' := (s16_p5_den K (fun s w => B1 [s 12, s 13, s 14] w))) (X := (fun i => (bif Nat.beq i 0 then (fun s w => s16_p1 K w) else (fun _ _ => False)))) (X' := (fun i => (bif Nat.beq i 0 then (s16_p1_den K) else (fun _ _ => False)))) (R := s16_R K) (s := s) (w := w) (p := s16_p6 K B1 (s 12) (s 13) (s 14) w) (q := s16_p6_den K (fun s w => B1 [s 12, s 13, s 14] w) s w) (fun s w h => s16_p5_ok K B1 s w @h) (fun i => (tr_bif (fun s w h => s16_p1_ok K s w @h) tr_id)) (by kernel_rfl) (by kernel_rfl) @h
def s16_p7_F (K : Value → World → Prop) (B1 : List Value → World → Prop) (l : List Value) (w : World) : Prop :=
  match l with
  | [t12, t13, t14] => s16_p6 K B1 t12 t13 t14 w
  | _ => False
theorem s16_p7_Fe {K : Value → World → Prop} {B1 : List Value → World → Prop} {t12 t13 t14 : Value} {w : World} : s16_p7_F K B1 [t12, t13, t14] w = s16_p6 K B1 t12 t13 t14 w := by kernel_rfl
def s16_p7 (K : Value → World → Prop) (t12 t13 t14 : Value) (w : World) : Prop :=
  LoopL (s16_p7_F K) [t12, t13, t14] w
def s16_p7_den (K : Value → World → Prop) : (Nat → Value) → World → Prop := fun s w => LoopP (fun M1 s w => s16_p6_den K M1 s w) s w
theorem s16_p7_ok (K : Value → World → Prop) (s : Nat → Value) (w : World) (h : s16_p7 K (s 12) (s 13) (s 14) w) : Tr (s16_p7_den K s w) :=
  tr_loop (G := fun N' s w => s16_p6_den K N' s w) (F := s16_p7_F K) (sel := fun s => [s 12, s 13, s 14]) (s := s) (w := w) (p := s16_p7 K (s 12) (s 13) (s 14) w) (q := s16_p7_den K s w) (fun B s w h => s16_p6_ok K B s w @h) (by kernel_rfl) (by kernel_rfl) @h
def s16_p8 (K : Value → World → Prop) (w : World) : Prop :=
  bsq 115 [.nilFunc] 21 [(some (0, 1), (.func (.func 61) #[] #[])), (some (1, 1), (.func (.func 62) #[] #[])), (some (2, 1), (.func (.func 63) #[] #[])), (some (3, 1), (.func (.func 64) #[] #[])), (some (4, 1), (.func (.func 65) #[] #[])), (some (5, 1), (.func (.func 66) #[] #[])), (some (6, 1), (.func (.func 67) #[] #[])), (some (7, 1), (.func (.func 68) #[] #[])), (some (8, 1), (.func (.func 69) #[] #[])), (some (9, 1), (.func (.func 70) #[] #[])), (some (10, 1), (.func (.func 71) #[] #[])), (some (11, 1), (.func (.func 72) #[] #[])), (some (12, 1), (.func (.func 73) #[] #[])), (some (13, 1), (.func (.func 74) #[] #[])), (some (14, 1), (.func (.func 75) #[] #[])), (some (15, 1), (.func (.func 76) #[] #[])), (some (16, 1), (.func (.func 77) #[] #[])), (some (17, 1), (.func (.func 78) #[] #[])), (some (18, 1), (.func (.func 79) #[] #[])), (some (19, 1), (.func (.func 80) #[] #[])), (some (20, 1), (.func (.func 81) #[] #[]))] (fun t11 w =>
  lnS t11 (fun t13 w =>
  s16_p7 K t11 t13 (.int .i64 0) w) w) w
def s16_p8_den (K : Value → World → Prop) : (Nat → Value) → World → Prop := denL Tryz.prog [(cd (Tryz.f16.body.getD .skip) [0]), (cd (Tryz.f16.body.getD .skip) [1, 0]), (cd (Tryz.f16.body.getD .skip) [1, 1, 0, 0])] (s16_p7_den K) (fun i => (fun _ _ => False)) (s16_R K)
theorem s16_p8_ok (K : Value → World → Prop) (s : Nat → Value) (w : World) (h : s16_p8 K w) : Tr (s16_p8_den K s w) :=
  tr_simple (P := Tryz.prog) (codes := [(cd (Tryz.f16.body.getD .skip) [0]), (cd (Tryz.f16.body.getD .skip) [1, 0]), (cd (Tryz.f16.body.getD .skip) [1, 1, 0, 0])]) (N := (fun s w => s16_p7 K (s 12) (s 13) (s 14) w)) (N' := (s16_p7_den K)) (X := (fun i => (fun _ _ => False))) (X' := (fun i => (fun _ _ => False))) (R := s16_R K) (s := s) (w := w) (p := s16_p8 K w) (q := s16_p8_den K s w) (fun s w h => s16_p7_ok K s w @h) (fun i => tr_id) (by kernel_rfl) (by kernel_rfl) @h
/-- the call, from the text -/
theorem c16 {K : Value → World → Prop} {w : World} (h : s16_p8 K  w) : cl Tryz.prog 16 #[] K w :=
  calls_of_tr (c := (Tryz.f16.body.getD .skip)) (fn := Tryz.f16) (q := s16_p8_den K (st0 #[]) w) Tryz.func16 (by kernel_rfl) (by kernel_rfl) (Nat.le_of_ble_eq_true (by kernel_rfl)) (by kernel_rfl) (by kernel_rfl) (s16_p8_ok K (st0 #[]) w @h)

/-! ### function 61 : e2e.enginelaw.ConfigIsChecked$1 -/
def s61_R (K : Value → World → Prop) (s : Nat → Value) (w : World) : Prop := retv Tryz.prog s Tryz.f61.results.toList (fun vs => K (pack vs) w) w
def s61_p1 (K : Value → World → Prop) (t0 : Value) (w : World) : Prop :=
  nck t0 (fun t3 w =>
  fd 0 t3 (fun t4 w =>
  st1 t4 (.slice none 0 0) (fun w =>
  K (.tuple #[]) w) w) w) w
def s61_p1_den (K : Value → World → Prop) : (Nat → Value) → World → Prop := denL Tryz.prog [(cd (Tryz.f61.body.getD .skip) [])] (s61_R K) (fun i => (fun _ _ => False)) (s61_R K)
theorem s61_p1_ok (K : Value → World → Prop) (s : Nat → Value) (w : World) (h : s61_p1 K (s 0) w) : Tr (s61_p1_den K s w) :=
  tr_simple (P := Tryz.prog) (codes := [(cd (Tryz.f61.body.getD .skip) [])]) (N := (s61_R K)) (N' := (s61_R K)) (X := (fun i => (fun _ _ => False))) (X' := (fun i => (fun _ _ => False))) (R := s61_R K) (s := s) (w := w) (p := s61_p1 K (s 0) w) (q := s61_p1_den K s w) tr_id (fun i => tr_id) (by kernel_rfl) (by kernel_rfl) @h
/-- the call, from the text -/
theorem c61 (t0 : Value) {K : Value → World → Prop} {w : World} (h : s61_p1 K t0 w) : cl Tryz.prog 61 #[t0] K w :=
  calls_of_tr (c := (Tryz.f61.body.getD .skip)) (fn := Tryz.f61) (q := s61_p1_den K (st0 #[t0]) w) Tryz.func61 (by kernel_rfl) (by kernel_rfl) (Nat.le_of_ble_eq_true (by kernel_rfl)) (by kernel_rfl) (by kernel_rfl) (s61_p1_ok K (st0 #[t0]) w @h)

/-! ### function 62 : e2e.enginelaw.ConfigIsChecked$2 -/
def s62_R (K : Value → World → Prop) (s : Nat → Value) (w : World) : Prop := retv Tryz.prog s Tryz.f62.results.toList (fun vs => K (pack vs) w) w
def s62_p1 (K : Value → World → Prop) (t0 : Value) (w : World) : Prop :=
  nck t0 (fun t3 w =>
  fd 0 t3 (fun t4 w =>
  ld1 t4 (fun t5 w =>
  ixs 5 t5 (.int .i64 0) (fun t6 w =>
  fd 0 t6 (fun t7 w =>
  st1 t7 (.int .i64 0) (fun w =>
  K (.tuple #[]) w) w) w) w) w) w) w
def s62_p1_den (K : Value → World → Prop) : (Nat → Value) → World → Prop := denL Tryz.prog [(cd (Tryz.f62.body.getD .skip) [])] (s62_R K) (fun i => (fun _ _ => False)) (s62_R K)
theorem s62_p1_ok (K : Value → World → Prop) (s : Nat → Value) (w : World) (h : s62_p1 K (s 0) w) : Tr (s62_p1_den K s w) :=
  tr_simple (P := Tryz.prog) (codes := [(cd (Tryz.f62.body.getD .skip) [])]) (N := (s62_R K)) (N' := (s62_R K)) (X := (fun i => (fun _ _ => False))) (X' := (fun i => (fun _ _ => False))) (R := s62_R K) (s := s) (w := w) (p := s62_p1 K (s 0) w) (q := s62_p1_den K s w) tr_id (fun i => tr_id) (by kernel_rfl) (by kernel_rfl) @h
/-- the call, from the text -/
theorem c62 (t0 : Value) {K : Value → World → Prop} {w : World} (h : s62_p1 K t0 w) : cl Tryz.prog 62 #[t0] K w :=
  calls_of_tr (c := (Tryz.f62.body.getD .skip)) (fn := Tryz.f62) (q := s62_p1_den K (st0 #[t0]) w) Tryz.func62 (by kernel_rfl) (by kernel_rfl) (Nat.le_of_ble_eq_true (by kernel_rfl)) (by kernel_rfl) (by kernel_rfl) (s62_p1_ok K (st0 #[t0]) w @h)

/-! ### function 63 : e2e.enginelaw.ConfigIsChecked$3 -/
def s63_R (K : Value → World → Prop) (s : Nat → Value) (w : World) : Prop := retv Tryz.prog s Tryz.f63.results.toList (fun vs => K (pack vs) w) w
def s63_p1 (K : Value → World → Prop) (t0 : Value) (w : World) : Prop :=
  nck t0 (fun t3 w =>
  fd 0 t3 (fun t4 w =>
  ld1 t4 (fun t5 w =>
  ixs 5 t5 (.int .i64 1) (fun t6 w =>
  fd 1 t6 (fun t7 w =>
  st1 t7 (.int .i64 0) (fun w =>
  K (.tuple #[]) w) w) w) w) w) w) w
def s63_p1_den (K : Value → World → Prop) : (Nat → Value) → World → Prop := denL Tryz.prog [(cd (Tryz.f63.body.getD .skip) [])] (s63_R K) (fun i => (fun _ _ => False)) (s63_R K)
theorem s63_p1_ok (K : Value → World → Prop) (s : Nat → Value) (w : World) (h : s63_p1 K (s 0) w) : Tr (s63_p1_den K s w) :=
  tr_simple (P := Tryz.prog) (codes := [(cd (Tryz.f63.body.getD .skip) [])]) (N := (s63_R K)) (N' := (s63_R K)) (X := (fun i => (fun _ _ => False))) (X' := (fun i => (fun _ _ => False))) (R := s63_R K) (s := s) (w := w) (p := s63_p1 K (s 0) w) (q := s63_p1_den K s w) tr_id (fun i => tr_id) (by kernel_rfl) (by kernel_rfl) @h
/-- the call, from the text -/
theorem c63 (t0 : Value) {K : Value → World → Prop} {w : World} (h : s63_p1 K t0 w) : cl Tryz.prog 63 #[t0] K w :=
  calls_of_tr (c := (Tryz.f63.body.getD .skip)) (fn := Tryz.f63) (q := s63_p1_den K (st0 #[t0]) w) Tryz.func63 (by kernel_rfl) (by kernel_rfl) (Nat.le_of_ble_eq_true (by kernel_rfl)) (by kernel_rfl) (by kernel_rfl) (s63_p1_ok K (st0 #[t0]) w @h)

/-! ### function 64 : e2e.enginelaw.ConfigIsChecked$4 -/
def s64_R (K : Value → World → Prop) (s : Nat → Value) (w : World) : Prop := retv Tryz.prog s Tryz.f64.results.toList (fun vs => K (pack vs) w) w
def s64_p1 (K : Value → World → Prop) (t0 : Value) (w : World) : Prop :=
  nck t0 (fun t3 w =>
  fd 0 t3 (fun t4 w =>
  ld1 t4 (fun t5 w =>
  ixs 5 t5 (.int .i64 2) (fun t6 w =>
  fd 2 t6 (fun t7 w =>
  ixa 3 1 t7 (.int .i64 1) (fun t8 w =>
  st1 t8 (.int .i64 (-1)) (fun w =>
  K (.tuple #[]) w) w) w) w) w) w) w) w
def s64_p1_den (K : Value → World → Prop) : (Nat → Value) → World → Prop := denL Tryz.prog [(cd (Tryz.f64.body.getD .skip) [])] (s64_R K) (fun i => (fun _ _ => False)) (s64_R K)
theorem s64_p1_ok (K : Value → World → Prop) (s : Nat → Value) (w : World) (h : s64_p1 K (s 0) w) : Tr (s64_p1_den K s w) :=
  tr_simple (P := Tryz.prog) (codes := [(cd (Tryz.f64.body.getD .skip) [])]) (N := (s64_R K)) (N' := (s64_R K)) (X := (fun i => (fun _ _ => False))) (X' := (fun i => (fun _ _ => False))) (R := s64_R K) (s := s) (w := w) (p := s64_p1 K (s 0) w) (q := s64_p1_den K s w) tr_id (fun i => tr_id) (by kernel_rfl) (by kernel_rfl) @h
/-- the call, from the text -/
theorem c64 (t0 : Value) {K : Value → World → Prop} {w : World} (h : s64_p1 K t0 w) : cl Tryz.prog 64 #[t0] K w :=
  calls_of_tr (c := (Tryz.f64.body.getD .skip)) (fn := Tryz.f64) (q := s64_p1_den K (st0 #[t0]) w) Tryz.func64 (by kernel_rfl) (by kernel_rfl) (Nat.le_of_ble_eq_true (by kernel_rfl)) (by kernel_rfl) (by kernel_rfl) (s64_p1_ok K (st0 #[t0]) w @h)

/-! ### function 65 : e2e.enginelaw.ConfigIsChecked$5 -/
def s65_R (K : Value → World → Prop) (s : Nat → Value) (w : World) : Prop := retv Tryz.prog s Tryz.f65.results.toList (fun vs => K (pack vs) w) w
def s65_p1 (K : Value → World → Prop) (t0 : Value) (w : World) : Prop :=
  nck t0 (fun t4 w =>
  fd 1 t4 (fun t5 w =>
  ld1 t5 (fun t6 w =>
  sls 1 t6 none (some (.int .i64 2)) (fun t7 w =>
  nck t0 (fun t8 w =>
  fd 1 t8 (fun t9 w =>
  st1 t9 t7 (fun w =>
  K (.tuple #[]) w) w) w) w) w) w) w) w
def s65_p1_den (K : Value → World → Prop) : (Nat → Value) → World → Prop := denL Tryz.prog [(cd (Tryz.f65.body.getD .skip) [])] (s65_R K) (fun i => (fun _ _ => False)) (s65_R K)
theorem s65_p1_ok (K : Value → World → Prop) (s : Nat → Value) (w : World) (h : s65_p1 K (s 0) w) : Tr (s65_p1_den K s w) :=
  tr_simple (P := Tryz.prog) (codes := [(cd (Tryz.f65.body.getD .skip) [])]) (N := (s65_R K)) (N' := (s65_R K)) (X := (fun i => (fun _ _ => False))) (X' := (fun i => (fun _ _ => False))) (R := s65_R K) (s := s) (w := w) (p := s65_p1 K (s 0) w) (q := s65_p1_den K s w) tr_id (fun i => tr_id) (by kernel_rfl) (by kernel_rfl) @h
/-- the call, from the text -/
theorem c65 (t0 : Value) {K : Value → World → Prop} {w : World} (h : s65_p1 K t0 w) : cl Tryz.prog 65 #[t0] K w :=
  calls_of_tr (c := (Tryz.f65.body.getD .skip)) (fn := Tryz.f65) (q := s65_p1_den K (st0 #[t0]) w) Tryz.func65 (by kernel_rfl) (by kernel_rfl) (Nat.le_of_ble_eq_true (by kernel_rfl)) (by kernel_rfl) (by kernel_rfl) (s65_p1_ok K (st0 #[t0]) w @h)

/-! ### function 66 : e2e.enginelaw.ConfigIsChecked$6 -/
def s66_R (K : Value → World → Prop) (s : Nat → Value) (w : World) : Prop := retv Tryz.prog s Tryz.f66.results.toList (fun vs => K (pack vs) w) w
def s66_p1_d (K : Value → World → Prop) (t0 : Value) (w0 w : World) : Prop :=
  nck t0 (fun t3 _ =>
  fd 1 t3 (fun t4 _ =>
  ld1 t4 (fun t5 _ =>
  nck t0 (fun t7 _ =>
  fd 1 t7 (fun t8 _ =>
  ld1 t8 (fun t9 _ =>
  ixs 1 t9 (.int .i64 1) (fun t10 _ =>
  ld1 t10 (fun t11 _ =>
  sls 1 t11 none (some (.int .i64 2)) (fun t12 _ =>
  ixs 1 t5 (.int .i64 1) (fun t13 _ =>
  st1 t13 t12 (fun w =>
  K (.tuple #[]) w) w) w0) w0) w0) w0) w0) w0) w0) w0) w0) w0
def s66_p1 (K : Value → World → Prop) (t0 : Value) (w : World) : Prop := s66_p1_d K t0 (drw w) (drw w)
def s66_p1_den (K : Value → World → Prop) : (Nat → Value) → World → Prop := denL Tryz.prog [(cd (Tryz.f66.body.getD .skip) [])] (s66_R K) (fun i => (fun _ _ => False)) (s66_R K)
theorem s66_p1_ok (K : Value → World → Prop) (s : Nat → Value) (w : World) (h : s66_p1 K (s 0) w) : Tr (s66_p1_den K s w) :=
  tr_draw (P := Tryz.prog) (ops := (ro (cd (Tryz.f66.body.getD .skip) []))) (ms := [0, 1, 3, 7, 0, 16, 48, 112, 240, 496, 1008, 2047, 4095]) (cs := [0, 1, 2, 3, 4, 5, 6, 7, 8, 9, 10, 11]) (N := (s66_R K)) (N' := (s66_R K)) (s := s) (w := w) (p := s66_p1 K (s 0) w) (q := s66_p1_den K s w) (by kernel_rfl) (by kernel_rfl) tr_id (by kernel_rfl) (by kernel_rfl) @h
/-- the call, from the text -/
theorem c66 (t0 : Value) {K : Value → World → Prop} {w : World} (h : s66_p1 K t0 w) : cl Tryz.prog 66 #[t0] K w :=
  calls_of_tr (c := (Tryz.f66.body.getD .skip)) (fn := Tryz.f66) (q := s66_p1_den K (st0 #[t0]) w) Tryz.func66 (by kernel_rfl) (by kernel_rfl) (Nat.le_of_ble_eq_true (by kernel_rfl)) (by kernel_rfl) (by kernel_rfl) (s66_p1_ok K (st0 #[t0]) w @h)

/-! ### function 67 : e2e.enginelaw.ConfigIsChecked$7 -/
def s67_R (K : Value → World → Prop) (s : Nat → Value) (w : World) : Prop := retv Tryz.prog s Tryz.f67.results.toList (fun vs => K (pack vs) w) w
def s67_p1 (K : Value → World → Prop) (t0 : Value) (w : World) : Prop :=
  nck t0 (fun t3 w =>
  fd 1 t3 (fun t4 w =>
  ld1 t4 (fun t5 w =>
  ixs 1 t5 (.int .i64 2) (fun t6 w =>
  ld1 t6 (fun t7 w =>
  ixs 1 t7 (.int .i64 0) (fun t8 w =>
  st1 t8 (.int .i64 (-1)) (fun w =>
  K (.tuple #[]) w) w) w) w) w) w) w) w
def s67_p1_den (K : Value → World → Prop) : (Nat → Value) → World → Prop := denL Tryz.prog [(cd (Tryz.f67.body.getD .skip) [])] (s67_R K) (fun i => (fun _ _ => False)) (s67_R K)
theorem s67_p1_ok (K : Value → World → Prop) (s : Nat → Value) (w : World) (h : s67_p1 K (s 0) w) : Tr (s67_p1_den K s w) :=
  tr_simple (P := Tryz.prog) (codes := [(cd (Tryz.f67.body.getD .skip) [])]) (N := (s67_R K)) (N' := (s67_R K)) (X := (fun i => (fun _ _ => False))) (X' := (fun i => (fun _ _ => False))) (R := s67_R K) (s := s) (w := w) (p := s67_p1 K (s 0) w) (q := s67_p1_den K s w) tr_id (fun i => tr_id) (by kernel_rfl) (by kernel_rfl) @h
/-- the call, from the text -/
theorem c67 (t0 : Value) {K : Value → World → Prop} {w : World} (h : s67_p1 K t0 w) : cl Tryz.prog 67 #[t0] K w :=
  calls_of_tr (c := (Tryz.f67.body.getD .skip)) (fn := Tryz.f67) (q := s67_p1_den K (st0 #[t0]) w) Tryz.func67 (by kernel_rfl) (by kernel_rfl) (Nat.le_of_ble_eq_true (by kernel_rfl)) (by kernel_rfl) (by kernel_rfl) (s67_p1_ok K (st0 #[t0]) w @h)

/-! ### function 68 : e2e.enginelaw.ConfigIsChecked$8 -/
def s68_R (K : Value → World → Prop) (s : Nat → Value) (w : World) : Prop := retv Tryz.prog s Tryz.f68.results.toList (fun vs => K (pack vs) w) w
def s68_p1 (K : Value → World → Prop) (t0 : Value) (w : World) : Prop :=
  nck t0 (fun t3 w =>
  fd 2 t3 (fun t4 w =>
  st1 t4 (.int .i64 1) (fun w =>
  K (.tuple #[]) w) w) w) w
def s68_p1_den (K : Value → World → Prop) : (Nat → Value) → World → Prop := denL Tryz.prog [(cd (Tryz.f68.body.getD .skip) [])] (s68_R K) (fun i => (fun _ _ => False)) (s68_R K)
theorem s68_p1_ok (K : Value → World → Prop) (s : Nat → Value) (w : World) (h : s68_p1 K (s 0) w) : Tr (s68_p1_den K s w) :=
  tr_simple (P := Tryz.prog) (codes := [(cd (Tryz.f68.body.getD .skip) [])]) (N := (s68_R K)) (N' := (s68_R K)) (X := (fun i => (fun _ _ => False))) (X' := (fun i => (fun _ _ => False))) (R := s68_R K) (s := s) (w := w) (p := s68_p1 K (s 0) w) (q := s68_p1_den K s w) tr_id (fun i => tr_id) (by kernel_rfl) (by kernel_rfl) @h
/-- the call, from the text -/
theorem c68 (t0 : Value) {K : Value → World → Prop} {w : World} (h : s68_p1 K t0 w) : cl Tryz.prog 68 #[t0] K w :=
  calls_of_tr (c := (Tryz.f68.body.getD .skip)) (fn := Tryz.f68) (q := s68_p1_den K (st0 #[t0]) w) Tryz.func68 (by kernel_rfl) (by kernel_rfl) (Nat.le_of_ble_eq_true (by kernel_rfl)) (by kernel_rfl) (by kernel_rfl) (s68_p1_ok K (st0 #[t0]) w @h)

/-! ### function 69 : e2e.enginelaw.ConfigIsChecked$9 -/
def s69_R (K : Value → World → Prop) (s : Nat → Value) (w : World) : Prop := retv Tryz.prog s Tryz.f69.results.toList (fun vs => K (pack vs) w) w
def s69_p1 (K : Value → World → Prop) (t0 : Value) (w : World) : Prop :=
  nck t0 (fun t4 w =>
  fd 2 t4 (fun t5 w =>
  ld1 t5 (fun t6 w =>
  nck t0 (fun t7 w =>
  fd 9 t7 (fun t8 w =>
  st1 t8 t6 (fun w =>
  K (.tuple #[]) w) w) w) w) w) w) w
def s69_p1_den (K : Value → World → Prop) : (Nat → Value) → World → Prop := denL Tryz.prog [(cd (Tryz.f69.body.getD .skip) [])] (s69_R K) (fun i => (fun _ _ => False)) (s69_R K)
theorem s69_p1_ok (K : Value → World → Prop) (s : Nat → Value) (w : World) (h : s69_p1 K (s 0) w) : Tr (s69_p1_den K s w) :=
  tr_simple (P := Tryz.prog) (codes := [(cd (Tryz.f69.body.getD .skip) [])]) (N := (s69_R K)) (N' := (s69_R K)) (X := (fun i => (fun _ _ => False))) (X' := (fun i => (fun _ _ => False))) (R := s69_R K) (s := s) (w := w) (p := s69_p1 K (s 0) w) (q := s69_p1_den K s w) tr_id (fun i => tr_id) (by kernel_rfl) (by kernel_rfl) @h
/-- the call, from the text -/
theorem c69 (t0 : Value) {K : Value → World → Prop} {w : World} (h : s69_p1 K t0 w) : cl Tryz.prog 69 #[t0] K w :=
  calls_of_tr (c := (Tryz.f69.body.getD .skip)) (fn := Tryz.f69) (q := s69_p1_den K (st0 #[t0]) w) Tryz.func69 (by kernel_rfl) (by kernel_rfl) (Nat.le_of_ble_eq_true (by kernel_rfl)) (by kernel_rfl) (by kernel_rfl) (s69_p1_ok K (st0 #[t0]) w @h)

/-! ### function 70 : e2e.enginelaw.ConfigIsChecked$10 -/
def s70_R (K : Value → World → Prop) (s : Nat → Value) (w : World) : Prop := retv Tryz.prog s Tryz.f70.results.toList (fun vs => K (pack vs) w) w
def s70_p1 (K : Value → World → Prop) (t0 : Value) (w : World) : Prop :=
  nck t0 (fun t3 w =>
  fd 9 t3 (fun t4 w =>
  st1 t4 (.int .i64 0) (fun w =>
  K (.tuple #[]) w) w) w) w
def s70_p1_den (K : Value → World → Prop) : (Nat → Value) → World → Prop := denL Tryz.prog [(cd (Tryz.f70.body.getD .skip) [])] (s70_R K) (fun i => (fun _ _ => False)) (s70_R K)
theorem s70_p1_ok (K : Value → World → Prop) (s : Nat → Value) (w : World) (h : s70_p1 K (s 0) w) : Tr (s70_p1_den K s w) :=
  tr_simple (P := Tryz.prog) (codes := [(cd (Tryz.f70.body.getD .skip) [])]) (N := (s70_R K)) (N' := (s70_R K)) (X := (fun i => (fun _ _ => False))) (X' := (fun i => (fun _ _ => False))) (R := s70_R K) (s := s) (w := w) (p := s70_p1 K (s 0) w) (q := s70_p1_den K s w) tr_id (fun i => tr_id) (by kernel_rfl) (by kernel_rfl) @h
/-- the call, from the text -/
theorem c70 (t0 : Value) {K : Value → World → Prop} {w : World} (h : s70_p1 K t0 w) : cl Tryz.prog 70 #[t0] K w :=
  calls_of_tr (c := (Tryz.f70.body.getD .skip)) (fn := Tryz.f70) (q := s70_p1_den K (st0 #[t0]) w) Tryz.func70 (by kernel_rfl) (by kernel_rfl) (Nat.le_of_ble_eq_true (by kernel_rfl)) (by kernel_rfl) (by kernel_rfl) (s70_p1_ok K (st0 #[t0]) w @h)

/-! ### function 71 : e2e.enginelaw.ConfigIsChecked$11 -/
def s71_R (K : Value → World → Prop) (s : Nat → Value) (w : World) : Prop := retv Tryz.prog s Tryz.f71.results.toList (fun vs => K (pack vs) w) w
def s71_p1 (K : Value → World → Prop) (t0 : Value) (w : World) : Prop :=
  nck t0 (fun t3 w =>
  fd 3 t3 (fun t4 w =>
  st1 t4 (.int .i64 (-1)) (fun w =>
  K (.tuple #[]) w) w) w) w
def s71_p1_den (K : Value → World → Prop) : (Nat → Value) → World → Prop := denL Tryz.prog [(cd (Tryz.f71.body.getD .skip) [])] (s71_R K) (fun i => (fun _ _ => False)) (s71_R K)
theorem s71_p1_ok (K : Value → World → Prop) (s : Nat → Value) (w : World) (h : s71_p1 K (s 0) w) : Tr (s71_p1_den K s w) :=
  tr_simple (P := Tryz.prog) (codes := [(cd (Tryz.f71.body.getD .skip) [])]) (N := (s71_R K)) (N' := (s71_R K)) (X := (fun i => (fun _ _ => False))) (X' := (fun i => (fun _ _ => False))) (R := s71_R K) (s := s) (w := w) (p := s71_p1 K (s 0) w) (q := s71_p1_den K s w) tr_id (fun i => tr_id) (by kernel_rfl) (by kernel_rfl) @h
/-- the call, from the text -/
theorem c71 (t0 : Value) {K : Value → World → Prop} {w : World} (h : s71_p1 K t0 w) : cl Tryz.prog 71 #[t0] K w :=
  calls_of_tr (c := (Tryz.f71.body.getD .skip)) (fn := Tryz.f71) (q := s71_p1_den K (st0 #[t0]) w) Tryz.func71 (by kernel_rfl) (by kernel_rfl) (Nat.le_of_ble_eq_true (by kernel_rfl)) (by kernel_rfl) (by kernel_rfl) (s71_p1_ok K (st0 #[t0]) w @h)

/-! ### function 72 : e2e.enginelaw.ConfigIsChecked$12 -/
def s72_R (K : Value → World → Prop) (s : Nat → Value) (w : World) : Prop := retv Tryz.prog s Tryz.f72.results.toList (fun vs => K (pack vs) w) w
def s72_p1 (K : Value → World → Prop) (t0 : Value) (w : World) : Prop :=
  nck t0 (fun t3 w =>
  fd 4 t3 (fun t4 w =>
  st1 t4 (.int .i64 0) (fun w =>
  K (.tuple #[]) w) w) w) w
def s72_p1_den (K : Value → World → Prop) : (Nat → Value) → World → Prop := denL Tryz.prog [(cd (Tryz.f72.body.getD .skip) [])] (s72_R K) (fun i => (fun _ _ => False)) (s72_R K)
theorem s72_p1_ok (K : Value → World → Prop) (s : Nat → Value) (w : World) (h : s72_p1 K (s 0) w) : Tr (s72_p1_den K s w) :=
  tr_simple (P := Tryz.prog) (codes := [(cd (Tryz.f72.body.getD .skip) [])]) (N := (s72_R K)) (N' := (s72_R K)) (X := (fun i => (fun _ _ => False))) (X' := (fun i => (fun _ _ => False))) (R := s72_R K) (s := s) (w := w) (p := s72_p1 K (s 0) w) (q := s72_p1_den K s w) tr_id (fun i => tr_id) (by kernel_rfl) (by kernel_rfl) @h
/-- the call, from the text -/
theorem c72 (t0 : Value) {K : Value → World → Prop} {w : World} (h : s72_p1 K t0 w) : cl Tryz.prog 72 #[t0] K w :=
  calls_of_tr (c := (Tryz.f72.body.getD .skip)) (fn := Tryz.f72) (q := s72_p1_den K (st0 #[t0]) w) Tryz.func72 (by kernel_rfl) (by kernel_rfl) (Nat.le_of_ble_eq_true (by kernel_rfl)) (by kernel_rfl) (by kernel_rfl) (s72_p1_ok K (st0 #[t0]) w @h)

/-! ### function 73 : e2e.enginelaw.ConfigIsChecked$13 -/
def s73_R (K : Value → World → Prop) (s : Nat → Value) (w : World) : Prop := retv Tryz.prog s Tryz.f73.results.toList (fun vs => K (pack vs) w) w
def s73_p1 (K : Value → World → Prop) (t0 : Value) (w : World) : Prop :=
  nck t0 (fun t3 w =>
  fd 5 t3 (fun t4 w =>
  st1 t4 (.int .i64 0) (fun w =>
  K (.tuple #[]) w) w) w) w
def s73_p1_den (K : Value → World → Prop) : (Nat → Value) → World → Prop := denL Tryz.prog [(cd (Tryz.f73.body.getD .skip) [])] (s73_R K) (fun i => (fun _ _ => False)) (s73_R K)
theorem s73_p1_ok (K : Value → World → Prop) (s : Nat → Value) (w : World) (h : s73_p1 K (s 0) w) : Tr (s73_p1_den K s w) :=
  tr_simple (P := Tryz.prog) (codes := [(cd (Tryz.f73.body.getD .skip) [])]) (N := (s73_R K)) (N' := (s73_R K)) (X := (fun i => (fun _ _ => False))) (X' := (fun i => (fun _ _ => False))) (R := s73_R K) (s := s) (w := w) (p := s73_p1 K (s 0) w) (q := s73_p1_den K s w) tr_id (fun i => tr_id) (by kernel_rfl) (by kernel_rfl) @h
/-- the call, from the text -/
theorem c73 (t0 : Value) {K : Value → World → Prop} {w : World} (h : s73_p1 K t0 w) : cl Tryz.prog 73 #[t0] K w :=
  calls_of_tr (c := (Tryz.f73.body.getD .skip)) (fn := Tryz.f73) (q := s73_p1_den K (st0 #[t0]) w) Tryz.func73 (by kernel_rfl) (by kernel_rfl) (Nat.le_of_ble_eq_true (by kernel_rfl)) (by kernel_rfl) (by kernel_rfl) (s73_p1_ok K (st0 #[t0]) w @h)

/-! ### function 74 : e2e.enginelaw.ConfigIsChecked$14 -/
def s74_R (K : Value → World → Prop) (s : Nat → Value) (w : World) : Prop := retv Tryz.prog s Tryz.f74.results.toList (fun vs => K (pack vs) w) w
def s74_p1 (K : Value → World → Prop) (t0 : Value) (w : World) : Prop :=
  nck t0 (fun t3 w =>
  fd 5 t3 (fun t4 w =>
  st1 t4 (.int .i64 9) (fun w =>
  K (.tuple #[]) w) w) w) w
def s74_p1_den (K : Value → World → Prop) : (Nat → Value) → World → Prop := denL Tryz.prog [(cd (Tryz.f74.body.getD .skip) [])] (s74_R K) (fun i => (fun _ _ => False)) (s74_R K)
theorem s74_p1_ok (K : Value → World → Prop) (s : Nat → Value) (w : World) (h : s74_p1 K (s 0) w) : Tr (s74_p1_den K s w) :=
  tr_simple (P := Tryz.prog) (codes := [(cd (Tryz.f74.body.getD .skip) [])]) (N := (s74_R K)) (N' := (s74_R K)) (X := (fun i => (fun _ _ => False))) (X' := (fun i => (fun _ _ => False))) (R := s74_R K) (s := s) (w := w) (p := s74_p1 K (s 0) w) (q := s74_p1_den K s w) tr_id (fun i => tr_id) (by kernel_rfl) (by kernel_rfl) @h
/-- the call, from the text -/
theorem c74 (t0 : Value) {K : Value → World → Prop} {w : World} (h : s74_p1 K t0 w) : cl Tryz.prog 74 #[t0] K w :=
  calls_of_tr (c := (Tryz.f74.body.getD .skip)) (fn := Tryz.f74) (q := s74_p1_den K (st0 #[t0]) w) Tryz.func74 (by kernel_rfl) (by kernel_rfl) (Nat.le_of_ble_eq_true (by kernel_rfl)) (by kernel_rfl) (by kernel_rfl) (s74_p1_ok K (st0 #[t0]) w @h)

/-! ### function 75 : e2e.enginelaw.ConfigIsChecked$15 -/
def s75_R (K : Value → World → Prop) (s : Nat → Value) (w : World) : Prop := retv Tryz.prog s Tryz.f75.results.toList (fun vs => K (pack vs) w) w
def s75_p1 (K : Value → World → Prop) (t0 : Value) (w : World) : Prop :=
  nck t0 (fun t3 w =>
  fd 6 t3 (fun t4 w =>
  st1 t4 (.int .i64 0) (fun w =>
  K (.tuple #[]) w) w) w) w
def s75_p1_den (K : Value → World → Prop) : (Nat → Value) → World → Prop := denL Tryz.prog [(cd (Tryz.f75.body.getD .skip) [])] (s75_R K) (fun i => (fun _ _ => False)) (s75_R K)
theorem s75_p1_ok (K : Value → World → Prop) (s : Nat → Value) (w : World) (h : s75_p1 K (s 0) w) : Tr (s75_p1_den K s w) :=
  tr_simple (P := Tryz.prog) (codes := [(cd (Tryz.f75.body.getD .skip) [])]) (N := (s75_R K)) (N' := (s75_R K)) (X := (fun i => (fun _ _ => False))) (X' := (fun i => (fun _ _ => False))) (R := s75_R K) (s := s) (w := w) (p := s75_p1 K (s 0) w) (q := s75_p1_den K s w) tr_id (fun i => tr_id) (by kernel_rfl) (by kernel_rfl) @h
/-- the call, from the text -/
theorem c75 (t0 : Value) {K : Value → World → Prop} {w : World} (h : s75_p1 K t0 w) : cl Tryz.prog 75 #[t0] K w :=
  calls_of_tr (c := (Tryz.f75.body.getD .skip)) (fn := Tryz.f75) (q := s75_p1_den K (st0 #[t0]) w) Tryz.func75 (by kernel_rfl) (by kernel_rfl) (Nat.le_of_ble_eq_true (by kernel_rfl)) (by kernel_rfl) (by kernel_rfl) (s75_p1_ok K (st0 #[t0]) w @h)

/-! ### function 76 : e2e.enginelaw.ConfigIsChecked$16 -/
def s76_R (K : Value → World → Prop) (s : Nat → Value) (w : World) : Prop := retv Tryz.prog s Tryz.f76.results.toList (fun vs => K (pack vs) w) w
def s76_p1 (K : Value → World → Prop) (t0 : Value) (w : World) : Prop :=
  nck t0 (fun t3 w =>
  fd 7 t3 (fun t4 w =>
  st1 t4 (.int .i64 0) (fun w =>
  K (.tuple #[]) w) w) w) w
def s76_p1_den (K : Value → World → Prop) : (Nat → Value) → World → Prop := denL Tryz.prog [(cd (Tryz.f76.body.getD .skip) [])] (s76_R K) (fun i => (fun _ _ => False)) (s76_R K)
theorem s76_p1_ok (K : Value → World → Prop) (s : Nat → Value) (w : World) (h : s76_p1 K (s 0) w) : Tr (s76_p1_den K s w) :=
  tr_simple (P := Tryz.prog) (codes := [(cd (Tryz.f76.body.getD .skip) [])]) (N := (s76_R K)) (N' := (s76_R K)) (X := (fun i => (fun _ _ => False))) (X' := (fun i => (fun _ _ => False))) (R := s76_R K) (s := s) (w := w) (p := s76_p1 K (s 0) w) (q := s76_p1_den K s w) tr_id (fun i => tr_id) (by kernel_rfl) (by kernel_rfl) @h
/-- the call, from the text -/
theorem c76 (t0 : Value) {K : Value → World → Prop} {w : World} (h : s76_p1 K t0 w) : cl Tryz.prog 76 #[t0] K w :=
  calls_of_tr (c := (Tryz.f76.body.getD .skip)) (fn := Tryz.f76) (q := s76_p1_den K (st0 #[t0]) w) Tryz.func76 (by kernel_rfl) (by kernel_rfl) (Nat.le_of_ble_eq_true (by kernel_rfl)) (by kernel_rfl) (by kernel_rfl) (s76_p1_ok K (st0 #[t0]) w @h)

/-! ### function 77 : e2e.enginelaw.ConfigIsChecked$17 -/
def s77_R (K : Value → World → Prop) (s : Nat → Value) (w : World) : Prop := retv Tryz.prog s Tryz.f77.results.toList (fun vs => K (pack vs) w) w
def s77_p1 (K : Value → World → Prop) (t0 : Value) (w : World) : Prop :=
  nck t0 (fun t3 w =>
  fd 8 t3 (fun t4 w =>
  st1 t4 (.int .i64 0) (fun w =>
  K (.tuple #[]) w) w) w) w
def s77_p1_den (K : Value → World → Prop) : (Nat → Value) → World → Prop := denL Tryz.prog [(cd (Tryz.f77.body.getD .skip) [])] (s77_R K) (fun i => (fun _ _ => False)) (s77_R K)
theorem s77_p1_ok (K : Value → World → Prop) (s : Nat → Value) (w : World) (h : s77_p1 K (s 0) w) : Tr (s77_p1_den K s w) :=
  tr_simple (P := Tryz.prog) (codes := [(cd (Tryz.f77.body.getD .skip) [])]) (N := (s77_R K)) (N' := (s77_R K)) (X := (fun i => (fun _ _ => False))) (X' := (fun i => (fun _ _ => False))) (R := s77_R K) (s := s) (w := w) (p := s77_p1 K (s 0) w) (q := s77_p1_den K s w) tr_id (fun i => tr_id) (by kernel_rfl) (by kernel_rfl) @h
/-- the call, from the text -/
theorem c77 (t0 : Value) {K : Value → World → Prop} {w : World} (h : s77_p1 K t0 w) : cl Tryz.prog 77 #[t0] K w :=
  calls_of_tr (c := (Tryz.f77.body.getD .skip)) (fn := Tryz.f77) (q := s77_p1_den K (st0 #[t0]) w) Tryz.func77 (by kernel_rfl) (by kernel_rfl) (Nat.le_of_ble_eq_true (by kernel_rfl)) (by kernel_rfl) (by kernel_rfl) (s77_p1_ok K (st0 #[t0]) w @h)

/-! ### function 78 : e2e.enginelaw.ConfigIsChecked$18 -/
def s78_R (K : Value → World → Prop) (s : Nat → Value) (w : World) : Prop := retv Tryz.prog s Tryz.f78.results.toList (fun vs => K (pack vs) w) w
def s78_p1 (K : Value → World → Prop) (t0 : Value) (w : World) : Prop :=
  nck t0 (fun t3 w =>
  fd 10 t3 (fun t4 w =>
  st1 t4 (.int .i64 0) (fun w =>
  K (.tuple #[]) w) w) w) w
def s78_p1_den (K : Value → World → Prop) : (Nat → Value) → World → Prop := denL Tryz.prog [(cd (Tryz.f78.body.getD .skip) [])] (s78_R K) (fun i => (fun _ _ => False)) (s78_R K)
theorem s78_p1_ok (K : Value → World → Prop) (s : Nat → Value) (w : World) (h : s78_p1 K (s 0) w) : Tr (s78_p1_den K s w) :=
  tr_simple (P := Tryz.prog) (codes := [(cd (Tryz.f78.body.getD .skip) [])]) (N := (s78_R K)) (N' := (s78_R K)) (X := (fun i => (fun _ _ => False))) (X' := (fun i => (fun _ _ => False))) (R := s78_R K) (s := s) (w := w) (p := s78_p1 K (s 0) w) (q := s78_p1_den K s w) tr_id (fun i => tr_id) (by kernel_rfl) (by kernel_rfl) @h
/-- the call, from the text -/
theorem c78 (t0 : Value) {K : Value → World → Prop} {w : World} (h : s78_p1 K t0 w) : cl Tryz.prog 78 #[t0] K w :=
  calls_of_tr (c := (Tryz.f78.body.getD .skip)) (fn := Tryz.f78) (q := s78_p1_den K (st0 #[t0]) w) Tryz.func78 (by kernel_rfl) (by kernel_rfl) (Nat.le_of_ble_eq_true (by kernel_rfl)) (by kernel_rfl) (by kernel_rfl) (s78_p1_ok K (st0 #[t0]) w @h)

/-! ### function 79 : e2e.enginelaw.ConfigIsChecked$19 -/
def s79_R (K : Value → World → Prop) (s : Nat → Value) (w : World) : Prop := retv Tryz.prog s Tryz.f79.results.toList (fun vs => K (pack vs) w) w
def s79_p1 (K : Value → World → Prop) (t0 : Value) (w : World) : Prop :=
  nck t0 (fun t3 w =>
  fd 11 t3 (fun t4 w =>
  st1 t4 (.int .i64 0) (fun w =>
  K (.tuple #[]) w) w) w) w
def s79_p1_den (K : Value → World → Prop) : (Nat → Value) → World → Prop := denL Tryz.prog [(cd (Tryz.f79.body.getD .skip) [])] (s79_R K) (fun i => (fun _ _ => False)) (s79_R K)
theorem s79_p1_ok (K : Value → World → Prop) (s : Nat → Value) (w : World) (h : s79_p1 K (s 0) w) : Tr (s79_p1_den K s w) :=
  tr_simple (P := Tryz.prog) (codes := [(cd (Tryz.f79.body.getD .skip) [])]) (N := (s79_R K)) (N' := (s79_R K)) (X := (fun i => (fun _ _ => False))) (X' := (fun i => (fun _ _ => False))) (R := s79_R K) (s := s) (w := w) (p := s79_p1 K (s 0) w) (q := s79_p1_den K s w) tr_id (fun i => tr_id) (by kernel_rfl) (by kernel_rfl) @h
/-- the call, from the text -/
theorem c79 (t0 : Value) {K : Value → World → Prop} {w : World} (h : s79_p1 K t0 w) : cl Tryz.prog 79 #[t0] K w :=
  calls_of_tr (c := (Tryz.f79.body.getD .skip)) (fn := Tryz.f79) (q := s79_p1_den K (st0 #[t0]) w) Tryz.func79 (by kernel_rfl) (by kernel_rfl) (Nat.le_of_ble_eq_true (by kernel_rfl)) (by kernel_rfl) (by kernel_rfl) (s79_p1_ok K (st0 #[t0]) w @h)

/-! ### function 80 : e2e.enginelaw.ConfigIsChecked$20 -/
def s80_R (K : Value → World → Prop) (s : Nat → Value) (w : World) : Prop := retv Tryz.prog s Tryz.f80.results.toList (fun vs => K (pack vs) w) w
def s80_p1 (K : Value → World → Prop) (t0 : Value) (w : World) : Prop :=
  nck t0 (fun t3 w =>
  fd 12 t3 (fun t4 w =>
  st1 t4 (.int .i64 0) (fun w =>
  K (.tuple #[]) w) w) w) w
def s80_p1_den (K : Value → World → Prop) : (Nat → Value) → World → Prop := denL Tryz.prog [(cd (Tryz.f80.body.getD .skip) [])] (s80_R K) (fun i => (fun _ _ => False)) (s80_R K)
theorem s80_p1_ok (K : Value → World → Prop) (s : Nat → Value) (w : World) (h : s80_p1 K (s 0) w) : Tr (s80_p1_den K s w) :=
  tr_simple (P := Tryz.prog) (codes := [(cd (Tryz.f80.body.getD .skip) [])]) (N := (s80_R K)) (N' := (s80_R K)) (X := (fun i => (fun _ _ => False))) (X' := (fun i => (fun _ _ => False))) (R := s80_R K) (s := s) (w := w) (p := s80_p1 K (s 0) w) (q := s80_p1_den K s w) tr_id (fun i => tr_id) (by kernel_rfl) (by kernel_rfl) @h
/-- the call, from the text -/
theorem c80 (t0 : Value) {K : Value → World → Prop} {w : World} (h : s80_p1 K t0 w) : cl Tryz.prog 80 #[t0] K w :=
  calls_of_tr (c := (Tryz.f80.body.getD .skip)) (fn := Tryz.f80) (q := s80_p1_den K (st0 #[t0]) w) Tryz.func80 (by kernel_rfl) (by kernel_rfl) (Nat.le_of_ble_eq_true (by kernel_rfl)) (by kernel_rfl) (by kernel_rfl) (s80_p1_ok K (st0 #[t0]) w @h)

/-! ### function 81 : e2e.enginelaw.ConfigIsChecked$21 -/
def s81_R (K : Value → World → Prop) (s : Nat → Value) (w : World) : Prop := retv Tryz.prog s Tryz.f81.results.toList (fun vs => K (pack vs) w) w
def s81_p1 (K : Value → World → Prop) (t0 : Value) (w : World) : Prop :=
  nck t0 (fun t3 w =>
  fd 13 t3 (fun t4 w =>
  st1 t4 (.int .i64 0) (fun w =>
  K (.tuple #[]) w) w) w) w
def s81_p1_den (K : Value → World → Prop) : (Nat → Value) → World → Prop := denL Tryz.prog [(cd (Tryz.f81.body.getD .skip) [])] (s81_R K) (fun i => (fun _ _ => False)) (s81_R K)
theorem s81_p1_ok (K : Value → World → Prop) (s : Nat → Value) (w : World) (h : s81_p1 K (s 0) w) : Tr (s81_p1_den K s w) :=
  tr_simple (P := Tryz.prog) (codes := [(cd (Tryz.f81.body.getD .skip) [])]) (N := (s81_R K)) (N' := (s81_R K)) (X := (fun i => (fun _ _ => False))) (X' := (fun i => (fun _ _ => False))) (R := s81_R K) (s := s) (w := w) (p := s81_p1 K (s 0) w) (q := s81_p1_den K s w) tr_id (fun i => tr_id) (by kernel_rfl) (by kernel_rfl) @h
/-- the call, from the text -/
theorem c81 (t0 : Value) {K : Value → World → Prop} {w : World} (h : s81_p1 K t0 w) : cl Tryz.prog 81 #[t0] K w :=
  calls_of_tr (c := (Tryz.f81.body.getD .skip)) (fn := Tryz.f81) (q := s81_p1_den K (st0 #[t0]) w) Tryz.func81 (by kernel_rfl) (by kernel_rfl) (Nat.le_of_ble_eq_true (by kernel_rfl)) (by kernel_rfl) (by kernel_rfl) (s81_p1_ok K (st0 #[t0]) w @h)

end Go.Proofs.Qxb6500896aGreat
