import Derived.Test.Qxb6500896aGreatProg
import Derived.Test.Qxb6500896aGreatShMix3
namespace Go.Proofs.Qxb6500896aGreat
open Go.Sh Go.RowKit
set_option linter.unusedVariables false
set_option maxRecDepth 100000

/-! ### function 11 : e2e.enginelaw.StreamEqualsRequests -/
def s11_R (K : Value → World → Prop) (s : Nat → Value) (w : World) : Prop := retv Tryz.prog s Tryz.f11.results.toList (fun vs => K (pack vs) w) w
def s11_p1 (K : Value → World → Prop) (t3 t4 t6 t7 : Value) (w : World) : Prop :=
  cl Tryz.prog 56 #[t4, t6] (fun t56 w =>
  cl Tryz.prog 23 #[t7, t56] (fun t57 w =>
  gd t57 true (fun K w => K t3 w) (fun t59 w =>
  gd t57 true (fun K w => K (.func (.func 24) #[t59] #[]) w) (fun t60 w =>
  gd t57 true (cl Tryz.prog 26 #[t60]) (fun t61 w =>
  gd t57 true (fun K w => K t4 w) (fun t62 w =>
  gd t57 true (fun K w => K (.func (.func 25) #[t62] #[]) w) (fun t63 w =>
  gd t57 true (cl Tryz.prog 26 #[t63]) (fun t64 w =>
  gd t57 true (cl Tryz.prog 23 #[t61, t64]) (fun t65 w =>
  pk t57 t65 (.bool false) (fun t66 w =>
  K t66 w) w) w) w) w) w) w) w) w) w) w
def s11_p1_den (K : Value → World → Prop) : (Nat → Value) → World → Prop := denL Tryz.prog [(cd (Tryz.f11.body.getD .skip) [1, 1, 1, 1, 1, 1, 0]), (cd (Tryz.f11.body.getD .skip) [1, 1, 1, 1, 1, 1, 1])] (fun _ _ => False) (fun i => (fun _ _ => False)) (s11_R K)
theorem s11_p1_ok (K : Value → World → Prop) (s : Nat → Value) (w : World) (h : s11_p1 K (s 3) (s 4) (s 6) (s 7) w) : Tr (s11_p1_den K s w) :=
  tr_simple (P := Tryz.prog) (codes := [(cd (Tryz.f11.body.getD .skip) [1, 1, 1, 1, 1, 1, 0]), (cd (Tryz.f11.body.getD .skip) [1, 1, 1, 1, 1, 1, 1])]) (N := (fun _ _ => False)) (N' := (fun _ _ => False)) (X := (fun i => (fun _ _ => False))) (X' := (fun i => (fun _ _ => False))) (R := s11_R K) (s := s) (w := w) (p := s11_p1 K (s 3) (s 4) (s 6) (s 7) w) (q := s11_p1_den K s w) tr_id (fun i => tr_id) (by kernel_rfl) (by kernel_rfl) @h
def s11_p2 (K : Value → World → Prop) (B1 : List Value → World → Prop) (t3 t4 t5 t6 t7 t23 t24 t25 : Value) (w : World) : Prop :=
  boI .add t25 (.int .i64 1) (fun t52 w =>
  B1 [t3, t4, t5, t6, t7, t23, t24, t52] w) w
def s11_p2_den (K : Value → World → Prop) (M1 : (Nat → Value) → World → Prop) : (Nat → Value) → World → Prop := denL Tryz.prog [(cd (Tryz.f11.body.getD .skip) [1, 1, 1, 1, 1, 0, 1, 0, 0, 1, 1, 1])] M1 (fun i => (bif Nat.beq i 0 then (s11_p1_den K) else (fun _ _ => False))) (s11_R K)
theorem s11_p2_ok (K : Value → World → Prop) (B1 : List Value → World → Prop) (s : Nat → Value) (w : World) (h : s11_p2 K B1 (s 3) (s 4) (s 5) (s 6) (s 7) (s 23) (s 24) (s 25) w) : Tr (s11_p2_den K (fun s w => B1 [s 3, s 4, s 5, s 6, s 7, s 23, s 24, s 25] w) s w) :=
  tr_simple (P := Tryz.prog) (codes := [(cd (Tryz.f11.body.getD .skip) [1, 1, 1, 1, 1, 0, 1, 0, 0, 1, 1, 1])]) (N := (fun s w => B1 [s 3, s 4, s 5, s 6, s 7, s 23, s 24, s 25] w)) (N' := (fun s w => B1 [s 3, s 4, s 5, s 6, s 7, s 23, s 24, s 25] w)) (X := (fun i => (bif Nat.beq i 0 then (fun s w => s11_p1 K (s 3) (s 4) (s 6) (s 7) w) else (fun _ _ => False)))) (X' := (fun i => (bif Nat.beq i 0 then (s11_p1_den K) else (fun _ _ => False)))) (R := s11_R K) (s := s) (w := w) (p := s11_p2 K B1 (s 3) (s 4) (s 5) (s 6) (s 7) (s 23) (s 24) (s 25) w) (q := s11_p2_den K (fun s w => B1 [s 3, s 4, s 5, s 6, s 7, s 23, s 24, s 25] w) s w) tr_id (fun i => (tr_bif (fun s w h => s11_p1_ok K s w @h) tr_id)) (by kernel_rfl) (by kernel_rfl) @h
def s11_p3 (K : Value → World → Prop) (B1 : List Value → World → Prop) (t3 t4 t5 t6 t7 t23 t24 t25 : Value) (w : World) : Prop :=
  boI .lss t25 t24 (fun t26 w =>
  ifb t26
  (ixs 4 t23 t25 (fun t27 w =>
  ldn 4 t27 (fun t28 w =>
  nw 39 #[(.int .i64 0), (.slice none 0 0), (.int .i64 0), (.int .i64 0)] (fun t9 w =>
  stn 4 t9 t28 (fun w =>
  fd 1 t9 (fun t29 w =>
  ld1 t29 (fun t30 w =>
  fd 0 t9 (fun t31 w =>
  ld1 t31 (fun t32 w =>
  boI .eql t32 (.int .i64 0) (fun t34 w =>
  ifb t34
  (ifb t34
  (fd 1 t9 (fun t36 w =>
  ld1 t36 (fun t37 w =>
  cl Tryz.prog 53 #[(.slice none 0 0), t37] (fun t38 w =>
  apq 5 [(.int .u8 0)] 1 t6 t38 (fun t43 w =>
  cl Tryz.prog 54 #[t5, t38] (fun t47 w =>
  apq 5 [(.int .u8 0)] 1 t7 t47 (fun t48 w =>
  cl Tryz.prog 55 #[t5] (fun t50 w =>
  boI .gtr t50 (.int .i64 181) (fun t51 w =>
  ifb t51
  (K (.bool false) w)
  (s11_p2 K B1 t3 t4 t5 t43 t48 t23 t24 t25 w)) w) w) w) w) w) w) w) w)
  (boI .eql t32 (.int .i64 3) (fun t40 w =>
  ifb t40
  (apq 5 [(.int .u8 0)] 1 t6 t30 (fun t43_2 w =>
  cl Tryz.prog 54 #[t5, t30] (fun t47_2 w =>
  apq 5 [(.int .u8 0)] 1 t7 t47_2 (fun t48_2 w =>
  cl Tryz.prog 55 #[t5] (fun t50_2 w =>
  boI .gtr t50_2 (.int .i64 181) (fun t51_2 w =>
  ifb t51_2
  (K (.bool false) w)
  (s11_p2 K B1 t3 t4 t5 t43_2 t48_2 t23 t24 t25 w)) w) w) w) w) w)
  (s11_p2 K B1 t3 t4 t5 t6 t7 t23 t24 t25 w)) w))
  (boI .eql t32 (.int .i64 4) (fun t35 w =>
  ifb t35
  (fd 1 t9 (fun t36_2 w =>
  ld1 t36_2 (fun t37_2 w =>
  cl Tryz.prog 53 #[(.slice none 0 0), t37_2] (fun t38_2 w =>
  apq 5 [(.int .u8 0)] 1 t6 t38_2 (fun t43_3 w =>
  cl Tryz.prog 54 #[t5, t38_2] (fun t47_3 w =>
  apq 5 [(.int .u8 0)] 1 t7 t47_3 (fun t48_3 w =>
  cl Tryz.prog 55 #[t5] (fun t50_3 w =>
  boI .gtr t50_3 (.int .i64 181) (fun t51_3 w =>
  ifb t51_3
  (K (.bool false) w)
  (s11_p2 K B1 t3 t4 t5 t43_3 t48_3 t23 t24 t25 w)) w) w) w) w) w) w) w) w)
  (boI .eql t32 (.int .i64 3) (fun t40_2 w =>
  ifb t40_2
  (apq 5 [(.int .u8 0)] 1 t6 t30 (fun t43_4 w =>
  cl Tryz.prog 54 #[t5, t30] (fun t47_4 w =>
  apq 5 [(.int .u8 0)] 1 t7 t47_4 (fun t48_4 w =>
  cl Tryz.prog 55 #[t5] (fun t50_4 w =>
  boI .gtr t50_4 (.int .i64 181) (fun t51_4 w =>
  ifb t51_4
  (K (.bool false) w)
  (s11_p2 K B1 t3 t4 t5 t43_4 t48_4 t23 t24 t25 w)) w) w) w) w) w)
  (s11_p2 K B1 t3 t4 t5 t6 t7 t23 t24 t25 w)) w)) w)) w) w) w) w) w) w) w) w) w)
  (s11_p1 K t3 t4 t6 t7 w)) w
def s11_p3_den (K : Value → World → Prop) (M1 : (Nat → Value) → World → Prop) : (Nat → Value) → World → Prop := denL Tryz.prog [(cd (Tryz.f11.body.getD .skip) [1, 1, 1, 1, 1, 0, 1, 0, 0, 0]), (cd (Tryz.f11.body.getD .skip) [1, 1, 1, 1, 1, 0, 1, 0, 0, 1, 0]), (cd (Tryz.f11.body.getD .skip) [1, 1, 1, 1, 1, 0, 1, 0, 0, 1, 1, 0])] (s11_p2_den K M1) (fun i => (bif Nat.beq i 0 then (s11_p1_den K) else (fun _ _ => False))) (s11_R K)
theorem s11_p3_ok (K : Value → World → Prop) (B1 : List Value → World → Prop) (s : Nat → Value) (w : World) (h : s11_p3 K B1 (s 3) (s 4) (s 5) (s 6) (s 7) (s 23) (s 24) (s 25) w) : Tr (s11_p3_den K (fun s w => B1 [s 3, s 4, s 5, s 6, s 7, s 23, s 24, s 25] w) s w) :=
  tr_simple (P := Tryz.prog) (codes := [(cd (Tryz.f11.body.getD .skip) [1, 1, 1, 1, 1, 0, 1, 0, 0, 0]), (cd (Tryz.f11.body.getD .skip) [1, 1, 1, 1, 1, 0, 1, 0, 0, 1, 0]), (cd (Tryz.f11.body.getD .skip) [1, 1, 1, 1, 1, 0, 1, 0, 0, 1, 1, 0])]) (N := (fun s w => s11_p2 K B1 (s 3) (s 4) (s 5) (s 6) (s 7) (s 23) (s 24) (s 25) w)) (N' := (s11_p2_den K (fun s w => B1 [s 3, s 4, s 5, s 6, s 7, s 23, s 24, s 25] w))) (X := (fun i => (bif Nat.beq i 0 then (fun s w => s11_p1 K (s 3) (s 4) (s 6) (s 7) w) else (fun _ _ => False)))) (X' := (fun i => (bif Nat.beq i 0 then (s11_p1_den K) else (fun _ _ => False)))) (R := s11_R K) (s := s) (w := w) (p := s11_p3 K B1 (s 3) (s 4) (s 5) (s 6) (s 7) (s 23) (s 24) (s 25) w) (q := s11_p3_den K (fun s w => B1 [s 3, s 4, s 5, s 6, s 7, s 23, s 24, s 25] w) s w) (fun s w h => s11_p2_ok K B1 s w @h) (fun i => (tr_bif (fun s w h => s11_p1_ok K s w @h) tr_id)) (by kernel_rfl) (by kernel_rfl) @h
def s11_p4_F (K : Value → World → Prop) (B1 : List Value → World → Prop) (l : List Value) (w : World) : Prop :=
  match l with
  | [t3, t4, t5, t6, t7, t23, t24, t25] => s11_p3 K B1 t3 t4 t5 t6 t7 t23 t24 t25 w
  | _ => False
theorem s11_p4_Fe {K : Value → World → Prop} {B1 : List Value → World → Prop} {t3 t4 t5 t6 t7 t23 t24 t25 : Value} {w : World} : s11_p4_F K B1 [t3, t4, t5, t6, t7, t23, t24, t25] w = s11_p3 K B1 t3 t4 t5 t6 t7 t23 t24 t25 w := by kernel_rfl
def s11_p4 (K : Value → World → Prop) (t3 t4 t5 t6 t7 t23 t24 t25 : Value) (w : World) : Prop :=
  LoopL (s11_p4_F K) [t3, t4, t5, t6, t7, t23, t24, t25] w
def s11_p4_den (K : Value → World → Prop) : (Nat → Value) → World → Prop := fun s w => LoopP (fun M1 s w => s11_p3_den K M1 s w) s w
theorem s11_p4_ok (K : Value → World → Prop) (s : Nat → Value) (w : World) (h : s11_p4 K (s 3) (s 4) (s 5) (s 6) (s 7) (s 23) (s 24) (s 25) w) : Tr (s11_p4_den K s w) :=
  tr_loop (G := fun N' s w => s11_p3_den K N' s w) (F := s11_p4_F K) (sel := fun s => [s 3, s 4, s 5, s 6, s 7, s 23, s 24, s 25]) (s := s) (w := w) (p := s11_p4 K (s 3) (s 4) (s 5) (s 6) (s 7) (s 23) (s 24) (s 25) w) (q := s11_p4_den K s w) (fun B s w h => s11_p3_ok K B s w @h) (by kernel_rfl) (by kernel_rfl) @h
def s11_p5 (K : Value → World → Prop) (t0 : Value) (w : World) : Prop :=
  cl Tryz.prog 17 #[t0] (fun t12 w =>
  un .not t12 (fun t13 w =>
  ifb t13
  (K (.bool true) w)
  (cl Tryz.prog 19 #[] (fun t14 w =>
  cl Tryz.prog 18 #[t14] (fun t15 w =>
  cl Tryz.prog 21 #[] (fun t16 w =>
  cl Tryz.prog 20 #[t16] (fun t17 w =>
  nck t15 (fun t19 w =>
  fd 1 t19 (fun t20 w =>
  ld1 t20 (fun t21 w =>
  cl Tryz.prog 52 #[t21] (fun t22 w =>
  lnS t0 (fun t24 w =>
  s11_p4 K t15 t17 t22 (.slice none 0 0) (.slice none 0 0) t0 t24 (.int .i64 0) w) w) w) w) w) w) w) w) w) w)) w) w
def s11_p5_den (K : Value → World → Prop) : (Nat → Value) → World → Prop := denL Tryz.prog [(cd (Tryz.f11.body.getD .skip) [0]), (cd (Tryz.f11.body.getD .skip) [1, 0, 0]), (cd (Tryz.f11.body.getD .skip) [1, 0, 1]), (cd (Tryz.f11.body.getD .skip) [1, 1, 0]), (cd (Tryz.f11.body.getD .skip) [1, 1, 1, 0]), (cd (Tryz.f11.body.getD .skip) [1, 1, 1, 1, 0]), (cd (Tryz.f11.body.getD .skip) [1, 1, 1, 1, 1, 0, 0])] (s11_p4_den K) (fun i => (fun _ _ => False)) (s11_R K)
theorem s11_p5_ok (K : Value → World → Prop) (s : Nat → Value) (w : World) (h : s11_p5 K (s 0) w) : Tr (s11_p5_den K s w) :=
  tr_simple (P := Tryz.prog) (codes := [(cd (Tryz.f11.body.getD .skip) [0]), (cd (Tryz.f11.body.getD .skip) [1, 0, 0]), (cd (Tryz.f11.body.getD .skip) [1, 0, 1]), (cd (Tryz.f11.body.getD .skip) [1, 1, 0]), (cd (Tryz.f11.body.getD .skip) [1, 1, 1, 0]), (cd (Tryz.f11.body.getD .skip) [1, 1, 1, 1, 0]), (cd (Tryz.f11.body.getD .skip) [1, 1, 1, 1, 1, 0, 0])]) (N := (fun s w => s11_p4 K (s 3) (s 4) (s 5) (s 6) (s 7) (s 23) (s 24) (s 25) w)) (N' := (s11_p4_den K)) (X := (fun i => (fun _ _ => False))) (X' := (fun i => (fun _ _ => False))) (R := s11_R K) (s := s) (w := w) (p := s11_p5 K (s 0) w) (q := s11_p5_den K s w) (fun s w h => s11_p4_ok K s w @h) (fun i => tr_id) (by kernel_rfl) (by kernel_rfl) @h
/-- the call, from the text -/
theorem c11 (t0 : Value) {K : Value → World → Prop} {w : World} (h : s11_p5 K t0 w) : cl Tryz.prog 11 #[t0] K w :=
  calls_of_tr (c := (Tryz.f11.body.getD .skip)) (fn := Tryz.f11) (q := s11_p5_den K (st0 #[t0]) w) Tryz.func11 (by kernel_rfl) (by kernel_rfl) (Nat.le_of_ble_eq_true (by kernel_rfl)) (by kernel_rfl) (by kernel_rfl) (s11_p5_ok K (st0 #[t0]) w @h)

end Go.Proofs.Qxb6500896aGreat
