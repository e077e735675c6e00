import Derived.Test.Qxb6500896aGreatProg
import Derived.Test.Qxb6500896aGreatShMix3
namespace Go.Proofs.Qxb6500896aGreat
open Go.Sh Go.RowKit
set_option linter.unusedVariables false
set_option maxRecDepth 100000

/-! ### function 3 : e2e.enginelaw.Refines -/
def s3_R (K : Value → World → Prop) (s : Nat → Value) (w : World) : Prop := retv Tryz.prog s Tryz.f3.results.toList (fun vs => K (pack vs) w) w
def s3_p1 (K : Value → World → Prop) (w : World) : Prop :=
  K (.bool true) w
def s3_p1_den (K : Value → World → Prop) : (Nat → Value) → World → Prop := denL Tryz.prog [(cd (Tryz.f3.body.getD .skip) [1, 1, 1, 1, 0]), (cd (Tryz.f3.body.getD .skip) [1, 1, 1, 1, 1])] (fun _ _ => False) (fun i => (fun _ _ => False)) (s3_R K)
theorem s3_p1_ok (K : Value → World → Prop) (s : Nat → Value) (w : World) (h : s3_p1 K w) : Tr (s3_p1_den K s w) :=
  tr_simple (P := Tryz.prog) (codes := [(cd (Tryz.f3.body.getD .skip) [1, 1, 1, 1, 0]), (cd (Tryz.f3.body.getD .skip) [1, 1, 1, 1, 1])]) (N := (fun _ _ => False)) (N' := (fun _ _ => False)) (X := (fun i => (fun _ _ => False))) (X' := (fun i => (fun _ _ => False))) (R := s3_R K) (s := s) (w := w) (p := s3_p1 K w) (q := s3_p1_den K s w) tr_id (fun i => tr_id) (by kernel_rfl) (by kernel_rfl) @h
def s3_p2 (K : Value → World → Prop) (B1 : List Value → World → Prop) (t3 t4 t14 t15 t16 : Value) (w : World) : Prop :=
  boI .add t16 (.int .i64 1) (fun t41 w =>
  B1 [t3, t4, t14, t15, t41] w) w
def s3_p2_den (K : Value → World → Prop) (M1 : (Nat → Value) → World → Prop) : (Nat → Value) → World → Prop := denL Tryz.prog [(cd (Tryz.f3.body.getD .skip) [1, 1, 1, 0, 1, 0, 0, 1, 1, 1])] M1 (fun i => (bif Nat.beq i 0 then (s3_p1_den K) else (fun _ _ => False))) (s3_R K)
theorem s3_p2_ok (K : Value → World → Prop) (B1 : List Value → World → Prop) (s : Nat → Value) (w : World) (h : s3_p2 K B1 (s 3) (s 4) (s 14) (s 15) (s 16) w) : Tr (s3_p2_den K (fun s w => B1 [s 3, s 4, s 14, s 15, s 16] w) s w) :=
  tr_simple (P := Tryz.prog) (codes := [(cd (Tryz.f3.body.getD .skip) [1, 1, 1, 0, 1, 0, 0, 1, 1, 1])]) (N := (fun s w => B1 [s 3, s 4, s 14, s 15, s 16] w)) (N' := (fun s w => B1 [s 3, s 4, s 14, s 15, s 16] w)) (X := (fun i => (bif Nat.beq i 0 then (fun s w => s3_p1 K w) else (fun _ _ => False)))) (X' := (fun i => (bif Nat.beq i 0 then (s3_p1_den K) else (fun _ _ => False)))) (R := s3_R K) (s := s) (w := w) (p := s3_p2 K B1 (s 3) (s 4) (s 14) (s 15) (s 16) w) (q := s3_p2_den K (fun s w => B1 [s 3, s 4, s 14, s 15, s 16] w) s w) tr_id (fun i => (tr_bif (fun s w h => s3_p1_ok K s w @h) tr_id)) (by kernel_rfl) (by kernel_rfl) @h
def s3_p3 (K : Value → World → Prop) (B1 : List Value → World → Prop) (t3 t4 t14 t15 t16 t32 : Value) (w : World) : Prop :=
  ifb t32
  (K (.bool false) w)
  (cl Tryz.prog 26 #[(.func (.func 24) #[t3] #[])] (fun t35 w =>
  cl Tryz.prog 26 #[(.func (.func 25) #[t4] #[])] (fun t38 w =>
  cl Tryz.prog 23 #[t35, t38] (fun t39 w =>
  un .not t39 (fun t40 w =>
  ifb t40
  (K (.bool false) w)
  (s3_p2 K B1 t3 t4 t14 t15 t16 w)) w) w) w) w)
def s3_p3_den (K : Value → World → Prop) (M1 : (Nat → Value) → World → Prop) : (Nat → Value) → World → Prop := denL Tryz.prog [(cd (Tryz.f3.body.getD .skip) [1, 1, 1, 0, 1, 0, 0, 1, 1, 0, 0, 1, 1, 0, 1]), (cd (Tryz.f3.body.getD .skip) [1, 1, 1, 0, 1, 0, 0, 1, 1, 0, 0, 1, 1, 1, 0]), (cd (Tryz.f3.body.getD .skip) [1, 1, 1, 0, 1, 0, 0, 1, 1, 0, 0, 1, 1, 1, 1])] (s3_p2_den K M1) (fun i => (bif Nat.beq i 1 then (s3_p2_den K M1) else (bif Nat.beq i 0 then (s3_p1_den K) else (fun _ _ => False)))) (s3_R K)
theorem s3_p3_ok (K : Value → World → Prop) (B1 : List Value → World → Prop) (s : Nat → Value) (w : World) (h : s3_p3 K B1 (s 3) (s 4) (s 14) (s 15) (s 16) (s 32) w) : Tr (s3_p3_den K (fun s w => B1 [s 3, s 4, s 14, s 15, s 16] w) s w) :=
  tr_simple (P := Tryz.prog) (codes := [(cd (Tryz.f3.body.getD .skip) [1, 1, 1, 0, 1, 0, 0, 1, 1, 0, 0, 1, 1, 0, 1]), (cd (Tryz.f3.body.getD .skip) [1, 1, 1, 0, 1, 0, 0, 1, 1, 0, 0, 1, 1, 1, 0]), (cd (Tryz.f3.body.getD .skip) [1, 1, 1, 0, 1, 0, 0, 1, 1, 0, 0, 1, 1, 1, 1])]) (N := (fun s w => s3_p2 K B1 (s 3) (s 4) (s 14) (s 15) (s 16) w)) (N' := (s3_p2_den K (fun s w => B1 [s 3, s 4, s 14, s 15, s 16] w))) (X := (fun i => (bif Nat.beq i 1 then (fun s w => s3_p2 K B1 (s 3) (s 4) (s 14) (s 15) (s 16) w) else (bif Nat.beq i 0 then (fun s w => s3_p1 K w) else (fun _ _ => False))))) (X' := (fun i => (bif Nat.beq i 1 then (s3_p2_den K (fun s w => B1 [s 3, s 4, s 14, s 15, s 16] w)) else (bif Nat.beq i 0 then (s3_p1_den K) else (fun _ _ => False))))) (R := s3_R K) (s := s) (w := w) (p := s3_p3 K B1 (s 3) (s 4) (s 14) (s 15) (s 16) (s 32) w) (q := s3_p3_den K (fun s w => B1 [s 3, s 4, s 14, s 15, s 16] w) s w) (fun s w h => s3_p2_ok K B1 s w @h) (fun i => (tr_bif (fun s w h => s3_p2_ok K B1 s w @h) (tr_bif (fun s w h => s3_p1_ok K s w @h) tr_id))) (by kernel_rfl) (by kernel_rfl) @h
def s3_p4_d (K : Value → World → Prop) (B1 : List Value → World → Prop) (J : World → Prop) (t3 t4 t6 t14 t15 t16 : Value) (w0 w : World) : Prop :=
  fd 1 t6 (fun t24 _ =>
  Go.Sh.R.qw J (ld1 t24) (fun t25 =>
  fd 1 t6 (fun t28 _ =>
  Go.Sh.R.qw J (ld1 t28) (fun t29 =>
  cl Tryz.prog 24 #[t3, t25] (fun t26 w =>
  J w ∧
  cl Tryz.prog 25 #[t4, t29] (fun t30 w =>
  cl Tryz.prog 23 #[t26, t30] (fun t31 w =>
  un .not t31 (fun t32 w =>
  s3_p3 K B1 t3 t4 t14 t15 t16 t32 w) w) w) w) w)) w0)) w0
def s3_p4 (K : Value → World → Prop) (B1 : List Value → World → Prop) (t3 t4 t6 t14 t15 t16 : Value) (w : World) : Prop := ∃ J : World → Prop, J (drw w) ∧ s3_p4_d K B1 J t3 t4 t6 t14 t15 t16 (drw w) (drw w)
def s3_p4_den (K : Value → World → Prop) (M1 : (Nat → Value) → World → Prop) : (Nat → Value) → World → Prop := denL Tryz.prog [(cd (Tryz.f3.body.getD .skip) [1, 1, 1, 0, 1, 0, 0, 1, 1, 0, 0, 1, 1, 0, 0])] (s3_p3_den K M1) (fun i => (bif Nat.beq i 1 then (s3_p2_den K M1) else (bif Nat.beq i 0 then (s3_p1_den K) else (fun _ _ => False)))) (s3_R K)
theorem s3_p4_ok (K : Value → World → Prop) (B1 : List Value → World → Prop) (s : Nat → Value) (w : World) (h : s3_p4 K B1 (s 3) (s 4) (s 6) (s 14) (s 15) (s 16) w) : Tr (s3_p4_den K (fun s w => B1 [s 3, s 4, s 14, s 15, s 16] w) s w) :=
  Go.Sh.R.tr_drawR (P := Tryz.prog) (ops := (ro (cd (Tryz.f3.body.getD .skip) [1, 1, 1, 0, 1, 0, 0, 1, 1, 0, 0, 1, 1, 0, 0]))) (ms := [0, 0, 2, 7, 0, 0, 32, 127, 255, 511]) (cs := [0, 1, 2, 4, 5, 6]) (N := (fun s w => s3_p3 K B1 (s 3) (s 4) (s 14) (s 15) (s 16) (s 32) w)) (N' := (s3_p3_den K (fun s w => B1 [s 3, s 4, s 14, s 15, s 16] w))) (s := s) (w := w) (p := fun J => s3_p4_d K B1 J (s 3) (s 4) (s 6) (s 14) (s 15) (s 16) (drw w) (drw w)) (q := s3_p4_den K (fun s w => B1 [s 3, s 4, s 14, s 15, s 16] w) s w) (by kernel_rfl) (by kernel_rfl) (fun s w h => s3_p3_ok K B1 s w @h) (by kernel_rfl) (by kernel_rfl) @h
def s3_p5 (K : Value → World → Prop) (B1 : List Value → World → Prop) (t3 t4 t14 t15 t16 : Value) (w : World) : Prop :=
  ixs 4 t14 t16 (fun t18 w =>
  ldn 4 t18 (fun t19 w =>
  nw 39 #[(.int .i64 0), (.slice none 0 0), (.int .i64 0), (.int .i64 0)] (fun t6 w =>
  stn 4 t6 t19 (fun w =>
  ldn 4 t6 (fun t20 w =>
  cl Tryz.prog 22 #[t20] (fun t21 w =>
  un .not t21 (fun t22 w =>
  ifb t22
  (s3_p2 K B1 t3 t4 t14 t15 t16 w)
  (s3_p4 K B1 t3 t4 t6 t14 t15 t16 w)) w) w) w) w) w) w) w
def s3_p5_den (K : Value → World → Prop) (M1 : (Nat → Value) → World → Prop) : (Nat → Value) → World → Prop := denL Tryz.prog [(cd (Tryz.f3.body.getD .skip) [1, 1, 1, 0, 1, 0, 0, 1, 1, 0, 0, 0]), (cd (Tryz.f3.body.getD .skip) [1, 1, 1, 0, 1, 0, 0, 1, 1, 0, 0, 1, 0, 0]), (cd (Tryz.f3.body.getD .skip) [1, 1, 1, 0, 1, 0, 0, 1, 1, 0, 0, 1, 0, 1])] (s3_p4_den K M1) (fun i => (bif Nat.beq i 1 then (s3_p2_den K M1) else (bif Nat.beq i 0 then (s3_p1_den K) else (fun _ _ => False)))) (s3_R K)
theorem s3_p5_ok (K : Value → World → Prop) (B1 : List Value → World → Prop) (s : Nat → Value) (w : World) (h : s3_p5 K B1 (s 3) (s 4) (s 14) (s 15) (s 16) w) : Tr (s3_p5_den K (fun s w => B1 [s 3, s 4, s 14, s 15, s 16] w) s w) :=
  tr_simple (P := Tryz.prog) (codes := [(cd (Tryz.f3.body.getD .skip) [1, 1, 1, 0, 1, 0, 0, 1, 1, 0, 0, 0]), (cd (Tryz.f3.body.getD .skip) [1, 1, 1, 0, 1, 0, 0, 1, 1, 0, 0, 1, 0, 0]), (cd (Tryz.f3.body.getD .skip) [1, 1, 1, 0, 1, 0, 0, 1, 1, 0, 0, 1, 0, 1])]) (N := (fun s w => s3_p4 K B1 (s 3) (s 4) (s 6) (s 14) (s 15) (s 16) w)) (N' := (s3_p4_den K (fun s w => B1 [s 3, s 4, s 14, s 15, s 16] w))) (X := (fun i => (bif Nat.beq i 1 then (fun s w => s3_p2 K B1 (s 3) (s 4) (s 14) (s 15) (s 16) w) else (bif Nat.beq i 0 then (fun s w => s3_p1 K w) else (fun _ _ => False))))) (X' := (fun i => (bif Nat.beq i 1 then (s3_p2_den K (fun s w => B1 [s 3, s 4, s 14, s 15, s 16] w)) else (bif Nat.beq i 0 then (s3_p1_den K) else (fun _ _ => False))))) (R := s3_R K) (s := s) (w := w) (p := s3_p5 K B1 (s 3) (s 4) (s 14) (s 15) (s 16) w) (q := s3_p5_den K (fun s w => B1 [s 3, s 4, s 14, s 15, s 16] w) s w) (fun s w h => s3_p4_ok K B1 s w @h) (fun i => (tr_bif (fun s w h => s3_p2_ok K B1 s w @h) (tr_bif (fun s w h => s3_p1_ok K s w @h) tr_id))) (by kernel_rfl) (by kernel_rfl) @h
def s3_p6 (K : Value → World → Prop) (B1 : List Value → World → Prop) (t3 t4 t14 t15 t16 : Value) (w : World) : Prop :=
  boI .lss t16 t15 (fun t17 w =>
  ifb t17
  (s3_p5 K B1 t3 t4 t14 t15 t16 w)
  (s3_p1 K w)) w
def s3_p6_den (K : Value → World → Prop) (M1 : (Nat → Value) → World → Prop) : (Nat → Value) → World → Prop := denL Tryz.prog [(cd (Tryz.f3.body.getD .skip) [1, 1, 1, 0, 1, 0, 0, 0]), (cd (Tryz.f3.body.getD .skip) [1, 1, 1, 0, 1, 0, 0, 1, 0])] (s3_p5_den K M1) (fun i => (bif Nat.beq i 0 then (s3_p1_den K) else (fun _ _ => False))) (s3_R K)
theorem s3_p6_ok (K : Value → World → Prop) (B1 : List Value → World → Prop) (s : Nat → Value) (w : World) (h : s3_p6 K B1 (s 3) (s 4) (s 14) (s 15) (s 16) w) : Tr (s3_p6_den K (fun s w => B1 [s 3, s 4, s 14, s 15, s 16] w) s w) :=
  tr_simple (P := Tryz.prog) (codes := [(cd (Tryz.f3.body.getD .skip) [1, 1, 1, 0, 1, 0, 0, 0]), (cd (Tryz.f3.body.getD .skip) [1, 1, 1, 0, 1, 0, 0, 1, 0])]) (N := (fun s w => s3_p5 K B1 (s 3) (s 4) (s 14) (s 15) (s 16) w)) (N' := (s3_p5_den K (fun s w => B1 [s 3, s 4, s 14, s 15, s 16] w))) (X := (fun i => (bif Nat.beq i 0 then (fun s w => s3_p1 K w) else (fun _ _ => False)))) (X' := (fun i => (bif Nat.beq i 0 then (s3_p1_den K) else (fun _ _ => False)))) (R := s3_R K) (s := s) (w := w) (p := s3_p6 K B1 (s 3) (s 4) (s 14) (s 15) (s 16) w) (q := s3_p6_den K (fun s w => B1 [s 3, s 4, s 14, s 15, s 16] w) s w) (fun s w h => s3_p5_ok K B1 s w @h) (fun i => (tr_bif (fun s w h => s3_p1_ok K s w @h) tr_id)) (by kernel_rfl) (by kernel_rfl) @h
def s3_p7_F (K : Value → World → Prop) (B1 : List Value → World → Prop) (l : List Value) (w : World) : Prop :=
  match l with
  | [t3, t4, t14, t15, t16] => s3_p6 K B1 t3 t4 t14 t15 t16 w
  | _ => False
theorem s3_p7_Fe {K : Value → World → Prop} {B1 : List Value → World → Prop} {t3 t4 t14 t15 t16 : Value} {w : World} : s3_p7_F K B1 [t3, t4, t14, t15, t16] w = s3_p6 K B1 t3 t4 t14 t15 t16 w := by kernel_rfl
def s3_p7 (K : Value → World → Prop) (t3 t4 t14 t15 t16 : Value) (w : World) : Prop :=
  LoopL (s3_p7_F K) [t3, t4, t14, t15, t16] w
def s3_p7_den (K : Value → World → Prop) : (Nat → Value) → World → Prop := fun s w => LoopP (fun M1 s w => s3_p6_den K M1 s w) s w
theorem s3_p7_ok (K : Value → World → Prop) (s : Nat → Value) (w : World) (h : s3_p7 K (s 3) (s 4) (s 14) (s 15) (s 16) w) : Tr (s3_p7_den K s w) :=
  tr_loop (G := fun N' s w => s3_p6_den K N' s w) (F := s3_p7_F K) (sel := fun s => [s 3, s 4, s 14, s 15, s 16]) (s := s) (w := w) (p := s3_p7 K (s 3) (s 4) (s 14) (s 15) (s 16) w) (q := s3_p7_den K s w) (fun B s w h => s3_p6_ok K B s w @h) (by kernel_rfl) (by kernel_rfl) @h
def s3_p8 (K : Value → World → Prop) (t0 : Value) (w : World) : Prop :=
  cl Tryz.prog 17 #[t0] (fun t8 w =>
  un .not t8 (fun t9 w =>
  ifb t9
  (K (.bool true) w)
  (cl Tryz.prog 19 #[] (fun t10 w =>
  cl Tryz.prog 18 #[t10] (fun t11 w =>
  cl Tryz.prog 21 #[] (fun t12 w =>
  cl Tryz.prog 20 #[t12] (fun t13 w =>
  lnS t0 (fun t15 w =>
  s3_p7 K t11 t13 t0 t15 (.int .i64 0) w) w) w) w) w) w)) w) w
def s3_p8_den (K : Value → World → Prop) : (Nat → Value) → World → Prop := denL Tryz.prog [(cd (Tryz.f3.body.getD .skip) [0]), (cd (Tryz.f3.body.getD .skip) [1, 0, 0]), (cd (Tryz.f3.body.getD .skip) [1, 0, 1]), (cd (Tryz.f3.body.getD .skip) [1, 1, 0]), (cd (Tryz.f3.body.getD .skip) [1, 1, 1, 0, 0])] (s3_p7_den K) (fun i => (fun _ _ => False)) (s3_R K)
theorem s3_p8_ok (K : Value → World → Prop) (s : Nat → Value) (w : World) (h : s3_p8 K (s 0) w) : Tr (s3_p8_den K s w) :=
  tr_simple (P := Tryz.prog) (codes := [(cd (Tryz.f3.body.getD .skip) [0]), (cd (Tryz.f3.body.getD .skip) [1, 0, 0]), (cd (Tryz.f3.body.getD .skip) [1, 0, 1]), (cd (Tryz.f3.body.getD .skip) [1, 1, 0]), (cd (Tryz.f3.body.getD .skip) [1, 1, 1, 0, 0])]) (N := (fun s w => s3_p7 K (s 3) (s 4) (s 14) (s 15) (s 16) w)) (N' := (s3_p7_den K)) (X := (fun i => (fun _ _ => False))) (X' := (fun i => (fun _ _ => False))) (R := s3_R K) (s := s) (w := w) (p := s3_p8 K (s 0) w) (q := s3_p8_den K s w) (fun s w h => s3_p7_ok K s w @h) (fun i => tr_id) (by kernel_rfl) (by kernel_rfl) @h
/-- the call, from the text -/
theorem c3 (t0 : Value) {K : Value → World → Prop} {w : World} (h : s3_p8 K t0 w) : cl Tryz.prog 3 #[t0] K w :=
  calls_of_tr (c := (Tryz.f3.body.getD .skip)) (fn := Tryz.f3) (q := s3_p8_den K (st0 #[t0]) w) Tryz.func3 (by kernel_rfl) (by kernel_rfl) (Nat.le_of_ble_eq_true (by kernel_rfl)) (by kernel_rfl) (by kernel_rfl) (s3_p8_ok K (st0 #[t0]) w @h)

end Go.Proofs.Qxb6500896aGreat
