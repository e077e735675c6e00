import Derived.Test.Qxb6500898aProg
import Derived.Test.Qxb6500898aShMix4
namespace Go.Proofs.Qxb6500898a
open Go.Sh Go.RowKit
set_option linter.unusedVariables false
set_option maxRecDepth 100000

/-! ### function 3 : e2e.octetslaw.RefinesModel -/
def s3_R (K : Value → World → Prop) (s : Nat → Value) (w : World) : Prop := retv Try.prog s Try.f3.results.toList (fun vs => K (pack vs) w) w
def s3_p1 (K : Value → World → Prop) (w : World) : Prop :=
  K (.bool true) w
def s3_p1_den (K : Value → World → Prop) : (Nat → Value) → World → Prop := denL Try.prog [(cd (Try.f3.body.getD .skip) [1, 1, 1, 1, 1, 0]), (cd (Try.f3.body.getD .skip) [1, 1, 1, 1, 1, 1])] (fun _ _ => False) (fun i => (fun _ _ => False)) (s3_R K)
theorem s3_p1_ok (K : Value → World → Prop) (s : Nat → Value) (w : World) (h : s3_p1 K w) : Tr (s3_p1_den K s w) :=
  tr_simple (P := Try.prog) (codes := [(cd (Try.f3.body.getD .skip) [1, 1, 1, 1, 1, 0]), (cd (Try.f3.body.getD .skip) [1, 1, 1, 1, 1, 1])]) (N := (fun _ _ => False)) (N' := (fun _ _ => False)) (X := (fun i => (fun _ _ => False))) (X' := (fun i => (fun _ _ => False))) (R := s3_R K) (s := s) (w := w) (p := s3_p1 K w) (q := s3_p1_den K s w) tr_id (fun i => tr_id) (by kernel_rfl) (by kernel_rfl) @h
def s3_p2 (K : Value → World → Prop) (B1 : List Value → World → Prop) (t3 t4 t11 t12 t13 : Value) (w : World) : Prop :=
  boI .add t13 (.int .i64 1) (fun t35 w =>
  B1 [t3, t4, t11, t12, t35] w) w
def s3_p2_den (K : Value → World → Prop) (M1 : (Nat → Value) → World → Prop) : (Nat → Value) → World → Prop := denL Try.prog [(cd (Try.f3.body.getD .skip) [1, 1, 1, 1, 0, 1, 0, 0, 1, 1, 1])] M1 (fun i => (bif Nat.beq i 0 then (s3_p1_den K) else (fun _ _ => False))) (s3_R K)
theorem s3_p2_ok (K : Value → World → Prop) (B1 : List Value → World → Prop) (s : Nat → Value) (w : World) (h : s3_p2 K B1 (s 3) (s 4) (s 11) (s 12) (s 13) w) : Tr (s3_p2_den K (fun s w => B1 [s 3, s 4, s 11, s 12, s 13] w) s w) :=
  tr_simple (P := Try.prog) (codes := [(cd (Try.f3.body.getD .skip) [1, 1, 1, 1, 0, 1, 0, 0, 1, 1, 1])]) (N := (fun s w => B1 [s 3, s 4, s 11, s 12, s 13] w)) (N' := (fun s w => B1 [s 3, s 4, s 11, s 12, s 13] w)) (X := (fun i => (bif Nat.beq i 0 then (fun s w => s3_p1 K w) else (fun _ _ => False)))) (X' := (fun i => (bif Nat.beq i 0 then (s3_p1_den K) else (fun _ _ => False)))) (R := s3_R K) (s := s) (w := w) (p := s3_p2 K B1 (s 3) (s 4) (s 11) (s 12) (s 13) w) (q := s3_p2_den K (fun s w => B1 [s 3, s 4, s 11, s 12, s 13] w) s w) tr_id (fun i => (tr_bif (fun s w h => s3_p1_ok K s w @h) tr_id)) (by kernel_rfl) (by kernel_rfl) @h
def s3_p3 (K : Value → World → Prop) (B1 : List Value → World → Prop) (t3 t4 t6 t7 t11 t12 t13 t25 : Value) (w : World) : Prop :=
  ifb t25
  (K (.bool false) w)
  (cl Try.prog 16 #[t3] (fun t26 w =>
  cl Try.prog 17 #[t4] (fun t27 w =>
  cl Try.prog 15 #[t26, t27] (fun t28 w =>
  un .not t28 (fun t29 w =>
  ifb t29
  (K (.bool false) w)
  (fd 5 t6 (fun t30 w =>
  ld1 t30 (fun t31 w =>
  cl Try.prog 18 #[t31, t7] (fun t33 w =>
  un .not t33 (fun t34 w =>
  ifb t34
  (K (.bool false) w)
  (s3_p2 K B1 t3 t4 t11 t12 t13 w)) w) w) w) w)) w) w) w) w)
def s3_p3_den (K : Value → World → Prop) (M1 : (Nat → Value) → World → Prop) : (Nat → Value) → World → Prop := denL Try.prog [(cd (Try.f3.body.getD .skip) [1, 1, 1, 1, 0, 1, 0, 0, 1, 1, 0, 0, 1, 1, 0, 1]), (cd (Try.f3.body.getD .skip) [1, 1, 1, 1, 0, 1, 0, 0, 1, 1, 0, 0, 1, 1, 1, 0, 0]), (cd (Try.f3.body.getD .skip) [1, 1, 1, 1, 0, 1, 0, 0, 1, 1, 0, 0, 1, 1, 1, 0, 1]), (cd (Try.f3.body.getD .skip) [1, 1, 1, 1, 0, 1, 0, 0, 1, 1, 0, 0, 1, 1, 1, 1, 0]), (cd (Try.f3.body.getD .skip) [1, 1, 1, 1, 0, 1, 0, 0, 1, 1, 0, 0, 1, 1, 1, 1, 1])] (s3_p2_den K M1) (fun i => (bif Nat.beq i 1 then (s3_p2_den K M1) else (bif Nat.beq i 0 then (s3_p1_den K) else (fun _ _ => False)))) (s3_R K)
theorem s3_p3_ok (K : Value → World → Prop) (B1 : List Value → World → Prop) (s : Nat → Value) (w : World) (h : s3_p3 K B1 (s 3) (s 4) (s 6) (s 7) (s 11) (s 12) (s 13) (s 25) w) : Tr (s3_p3_den K (fun s w => B1 [s 3, s 4, s 11, s 12, s 13] w) s w) :=
  tr_simple (P := Try.prog) (codes := [(cd (Try.f3.body.getD .skip) [1, 1, 1, 1, 0, 1, 0, 0, 1, 1, 0, 0, 1, 1, 0, 1]), (cd (Try.f3.body.getD .skip) [1, 1, 1, 1, 0, 1, 0, 0, 1, 1, 0, 0, 1, 1, 1, 0, 0]), (cd (Try.f3.body.getD .skip) [1, 1, 1, 1, 0, 1, 0, 0, 1, 1, 0, 0, 1, 1, 1, 0, 1]), (cd (Try.f3.body.getD .skip) [1, 1, 1, 1, 0, 1, 0, 0, 1, 1, 0, 0, 1, 1, 1, 1, 0]), (cd (Try.f3.body.getD .skip) [1, 1, 1, 1, 0, 1, 0, 0, 1, 1, 0, 0, 1, 1, 1, 1, 1])]) (N := (fun s w => s3_p2 K B1 (s 3) (s 4) (s 11) (s 12) (s 13) w)) (N' := (s3_p2_den K (fun s w => B1 [s 3, s 4, s 11, s 12, s 13] w))) (X := (fun i => (bif Nat.beq i 1 then (fun s w => s3_p2 K B1 (s 3) (s 4) (s 11) (s 12) (s 13) w) else (bif Nat.beq i 0 then (fun s w => s3_p1 K w) else (fun _ _ => False))))) (X' := (fun i => (bif Nat.beq i 1 then (s3_p2_den K (fun s w => B1 [s 3, s 4, s 11, s 12, s 13] w)) else (bif Nat.beq i 0 then (s3_p1_den K) else (fun _ _ => False))))) (R := s3_R K) (s := s) (w := w) (p := s3_p3 K B1 (s 3) (s 4) (s 6) (s 7) (s 11) (s 12) (s 13) (s 25) w) (q := s3_p3_den K (fun s w => B1 [s 3, s 4, s 11, s 12, s 13] w) s w) (fun s w h => s3_p2_ok K B1 s w @h) (fun i => (tr_bif (fun s w h => s3_p2_ok K B1 s w @h) (tr_bif (fun s w h => s3_p1_ok K s w @h) tr_id))) (by kernel_rfl) (by kernel_rfl) @h
def s3_p4_d (K : Value → World → Prop) (B1 : List Value → World → Prop) (t3 t4 t6 t7 t11 t12 t13 : Value) (w0 w : World) : Prop :=
  ldn 6 t6 (fun t20 _ =>
  ldn 6 t6 (fun t22 _ =>
  cl Try.prog 13 #[t3, t20] (fun t21 w =>
  Below w0.heap.size w0 w ∧
  cl Try.prog 14 #[t4, t22] (fun t23 w =>
  cl Try.prog 12 #[t21, t23] (fun t24 w =>
  un .not t24 (fun t25 w =>
  s3_p3 K B1 t3 t4 t6 t7 t11 t12 t13 t25 w) w) w) w) w) w0) w0
def s3_p4 (K : Value → World → Prop) (B1 : List Value → World → Prop) (t3 t4 t6 t7 t11 t12 t13 : Value) (w : World) : Prop := s3_p4_d K B1 t3 t4 t6 t7 t11 t12 t13 (drw w) (drw w)
def s3_p4_den (K : Value → World → Prop) (M1 : (Nat → Value) → World → Prop) : (Nat → Value) → World → Prop := denL Try.prog [(cd (Try.f3.body.getD .skip) [1, 1, 1, 1, 0, 1, 0, 0, 1, 1, 0, 0, 1, 1, 0, 0])] (s3_p3_den K M1) (fun i => (bif Nat.beq i 1 then (s3_p2_den K M1) else (bif Nat.beq i 0 then (s3_p1_den K) else (fun _ _ => False)))) (s3_R K)
theorem s3_p4_ok (K : Value → World → Prop) (B1 : List Value → World → Prop) (s : Nat → Value) (w : World) (h : s3_p4 K B1 (s 3) (s 4) (s 6) (s 7) (s 11) (s 12) (s 13) w) : Tr (s3_p4_den K (fun s w => B1 [s 3, s 4, s 11, s 12, s 13] w) s w) :=
  tr_draw (P := Try.prog) (ops := (ro (cd (Try.f3.body.getD .skip) [1, 1, 1, 1, 0, 1, 0, 0, 1, 1, 0, 0, 1, 1, 0, 0]))) (ms := [0, 1, 0, 7, 15, 31]) (cs := [0, 2]) (N := (fun s w => s3_p3 K B1 (s 3) (s 4) (s 6) (s 7) (s 11) (s 12) (s 13) (s 25) w)) (N' := (s3_p3_den K (fun s w => B1 [s 3, s 4, s 11, s 12, s 13] w))) (s := s) (w := w) (p := s3_p4 K B1 (s 3) (s 4) (s 6) (s 7) (s 11) (s 12) (s 13) w) (q := s3_p4_den K (fun s w => B1 [s 3, s 4, s 11, s 12, s 13] w) s w) (by kernel_rfl) (by kernel_rfl) (fun s w h => s3_p3_ok K B1 s w @h) (by kernel_rfl) (by kernel_rfl) @h
def s3_p5 (K : Value → World → Prop) (B1 : List Value → World → Prop) (t3 t4 t11 t12 t13 : Value) (w : World) : Prop :=
  ixs 6 t11 t13 (fun t15 w =>
  ldn 6 t15 (fun t16 w =>
  nw 34 #[(.int .i64 0), (.int .i64 0), (.bool false), (.int .i64 0), (.int .u64 0), (.slice none 0 0)] (fun t6 w =>
  stn 6 t6 t16 (fun w =>
  fd 5 t6 (fun t17 w =>
  ld1 t17 (fun t18 w =>
  cl Try.prog 11 #[t18] (fun t19 w =>
  s3_p4 K B1 t3 t4 t6 t19 t11 t12 t13 w) w) w) w) w) w) w) w
def s3_p5_den (K : Value → World → Prop) (M1 : (Nat → Value) → World → Prop) : (Nat → Value) → World → Prop := denL Try.prog [(cd (Try.f3.body.getD .skip) [1, 1, 1, 1, 0, 1, 0, 0, 1, 1, 0, 0, 0]), (cd (Try.f3.body.getD .skip) [1, 1, 1, 1, 0, 1, 0, 0, 1, 1, 0, 0, 1, 0])] (s3_p4_den K M1) (fun i => (bif Nat.beq i 1 then (s3_p2_den K M1) else (bif Nat.beq i 0 then (s3_p1_den K) else (fun _ _ => False)))) (s3_R K)
theorem s3_p5_ok (K : Value → World → Prop) (B1 : List Value → World → Prop) (s : Nat → Value) (w : World) (h : s3_p5 K B1 (s 3) (s 4) (s 11) (s 12) (s 13) w) : Tr (s3_p5_den K (fun s w => B1 [s 3, s 4, s 11, s 12, s 13] w) s w) :=
  tr_simple (P := Try.prog) (codes := [(cd (Try.f3.body.getD .skip) [1, 1, 1, 1, 0, 1, 0, 0, 1, 1, 0, 0, 0]), (cd (Try.f3.body.getD .skip) [1, 1, 1, 1, 0, 1, 0, 0, 1, 1, 0, 0, 1, 0])]) (N := (fun s w => s3_p4 K B1 (s 3) (s 4) (s 6) (s 7) (s 11) (s 12) (s 13) w)) (N' := (s3_p4_den K (fun s w => B1 [s 3, s 4, s 11, s 12, s 13] w))) (X := (fun i => (bif Nat.beq i 1 then (fun s w => s3_p2 K B1 (s 3) (s 4) (s 11) (s 12) (s 13) w) else (bif Nat.beq i 0 then (fun s w => s3_p1 K w) else (fun _ _ => False))))) (X' := (fun i => (bif Nat.beq i 1 then (s3_p2_den K (fun s w => B1 [s 3, s 4, s 11, s 12, s 13] w)) else (bif Nat.beq i 0 then (s3_p1_den K) else (fun _ _ => False))))) (R := s3_R K) (s := s) (w := w) (p := s3_p5 K B1 (s 3) (s 4) (s 11) (s 12) (s 13) w) (q := s3_p5_den K (fun s w => B1 [s 3, s 4, s 11, s 12, s 13] w) s w) (fun s w h => s3_p4_ok K B1 s w @h) (fun i => (tr_bif (fun s w h => s3_p2_ok K B1 s w @h) (tr_bif (fun s w h => s3_p1_ok K s w @h) tr_id))) (by kernel_rfl) (by kernel_rfl) @h
def s3_p6 (K : Value → World → Prop) (B1 : List Value → World → Prop) (t3 t4 t11 t12 t13 : Value) (w : World) : Prop :=
  boI .lss t13 t12 (fun t14 w =>
  ifb t14
  (s3_p5 K B1 t3 t4 t11 t12 t13 w)
  (s3_p1 K w)) w
def s3_p6_den (K : Value → World → Prop) (M1 : (Nat → Value) → World → Prop) : (Nat → Value) → World → Prop := denL Try.prog [(cd (Try.f3.body.getD .skip) [1, 1, 1, 1, 0, 1, 0, 0, 0]), (cd (Try.f3.body.getD .skip) [1, 1, 1, 1, 0, 1, 0, 0, 1, 0])] (s3_p5_den K M1) (fun i => (bif Nat.beq i 0 then (s3_p1_den K) else (fun _ _ => False))) (s3_R K)
theorem s3_p6_ok (K : Value → World → Prop) (B1 : List Value → World → Prop) (s : Nat → Value) (w : World) (h : s3_p6 K B1 (s 3) (s 4) (s 11) (s 12) (s 13) w) : Tr (s3_p6_den K (fun s w => B1 [s 3, s 4, s 11, s 12, s 13] w) s w) :=
  tr_simple (P := Try.prog) (codes := [(cd (Try.f3.body.getD .skip) [1, 1, 1, 1, 0, 1, 0, 0, 0]), (cd (Try.f3.body.getD .skip) [1, 1, 1, 1, 0, 1, 0, 0, 1, 0])]) (N := (fun s w => s3_p5 K B1 (s 3) (s 4) (s 11) (s 12) (s 13) w)) (N' := (s3_p5_den K (fun s w => B1 [s 3, s 4, s 11, s 12, s 13] w))) (X := (fun i => (bif Nat.beq i 0 then (fun s w => s3_p1 K w) else (fun _ _ => False)))) (X' := (fun i => (bif Nat.beq i 0 then (s3_p1_den K) else (fun _ _ => False)))) (R := s3_R K) (s := s) (w := w) (p := s3_p6 K B1 (s 3) (s 4) (s 11) (s 12) (s 13) w) (q := s3_p6_den K (fun s w => B1 [s 3, s 4, s 11, s 12, s 13] w) s w) (fun s w h => s3_p5_ok K B1 s w @h) (fun i => (tr_bif (fun s w h => s3_p1_ok K s w @h) tr_id)) (by kernel_rfl) (by kernel_rfl) @h
def s3_p7_F (K : Value → World → Prop) (B1 : List Value → World → Prop) (l : List Value) (w : World) : Prop :=
  match l with
  | [t3, t4, t11, t12, t13] => s3_p6 K B1 t3 t4 t11 t12 t13 w
  | _ => False
theorem s3_p7_Fe {K : Value → World → Prop} {B1 : List Value → World → Prop} {t3 t4 t11 t12 t13 : Value} {w : World} : s3_p7_F K B1 [t3, t4, t11, t12, t13] w = s3_p6 K B1 t3 t4 t11 t12 t13 w := by kernel_rfl
def s3_p7 (K : Value → World → Prop) (t3 t4 t11 t12 t13 : Value) (w : World) : Prop :=
  LoopL (s3_p7_F K) [t3, t4, t11, t12, t13] w
def s3_p7_den (K : Value → World → Prop) : (Nat → Value) → World → Prop := fun s w => LoopP (fun M1 s w => s3_p6_den K M1 s w) s w
theorem s3_p7_ok (K : Value → World → Prop) (s : Nat → Value) (w : World) (h : s3_p7 K (s 3) (s 4) (s 11) (s 12) (s 13) w) : Tr (s3_p7_den K s w) :=
  tr_loop (G := fun N' s w => s3_p6_den K N' s w) (F := s3_p7_F K) (sel := fun s => [s 3, s 4, s 11, s 12, s 13]) (s := s) (w := w) (p := s3_p7 K (s 3) (s 4) (s 11) (s 12) (s 13) w) (q := s3_p7_den K s w) (fun B s w h => s3_p6_ok K B s w @h) (by kernel_rfl) (by kernel_rfl) @h
def s3_p8 (K : Value → World → Prop) (t0 : Value) (w : World) : Prop :=
  cl Try.prog 10 #[t0] (fun t9 w =>
  un .not t9 (fun t10 w =>
  ifb t10
  (K (.bool true) w)
  (nw 28 #[(.slice none 0 0), (.slice none 0 0), (.int .i64 0), (.bool false)] (fun t3 w =>
  nw 30 #[(.slice none 0 0), (.slice none 0 0), (.bool false)] (fun t4 w =>
  lnS t0 (fun t12 w =>
  s3_p7 K t3 t4 t0 t12 (.int .i64 0) w) w) w) w)) w) w
def s3_p8_den (K : Value → World → Prop) : (Nat → Value) → World → Prop := denL Try.prog [(cd (Try.f3.body.getD .skip) [0]), (cd (Try.f3.body.getD .skip) [1, 0, 0]), (cd (Try.f3.body.getD .skip) [1, 0, 1]), (cd (Try.f3.body.getD .skip) [1, 1, 0]), (cd (Try.f3.body.getD .skip) [1, 1, 1, 0]), (cd (Try.f3.body.getD .skip) [1, 1, 1, 1, 0, 0])] (s3_p7_den K) (fun i => (fun _ _ => False)) (s3_R K)
theorem s3_p8_ok (K : Value → World → Prop) (s : Nat → Value) (w : World) (h : s3_p8 K (s 0) w) : Tr (s3_p8_den K s w) :=
  tr_simple (P := Try.prog) (codes := [(cd (Try.f3.body.getD .skip) [0]), (cd (Try.f3.body.getD .skip) [1, 0, 0]), (cd (Try.f3.body.getD .skip) [1, 0, 1]), (cd (Try.f3.body.getD .skip) [1, 1, 0]), (cd (Try.f3.body.getD .skip) [1, 1, 1, 0]), (cd (Try.f3.body.getD .skip) [1, 1, 1, 1, 0, 0])]) (N := (fun s w => s3_p7 K (s 3) (s 4) (s 11) (s 12) (s 13) w)) (N' := (s3_p7_den K)) (X := (fun i => (fun _ _ => False))) (X' := (fun i => (fun _ _ => False))) (R := s3_R K) (s := s) (w := w) (p := s3_p8 K (s 0) w) (q := s3_p8_den K s w) (fun s w h => s3_p7_ok K s w @h) (fun i => tr_id) (by kernel_rfl) (by kernel_rfl) @h
/-- the call, from the text -/
theorem c3 (t0 : Value) {K : Value → World → Prop} {w : World} (h : s3_p8 K t0 w) : cl Try.prog 3 #[t0] K w :=
  calls_of_tr (c := (Try.f3.body.getD .skip)) (fn := Try.f3) (q := s3_p8_den K (st0 #[t0]) w) Try.func3 (by kernel_rfl) (by kernel_rfl) (Nat.le_of_ble_eq_true (by kernel_rfl)) (by kernel_rfl) (by kernel_rfl) (s3_p8_ok K (st0 #[t0]) w @h)

/-! ### function 4 : e2e.octetslaw.RotationTurnsBack -/
def s4_R (K : Value → World → Prop) (s : Nat → Value) (w : World) : Prop := retv Try.prog s Try.f4.results.toList (fun vs => K (pack vs) w) w
def s4_p1 (K : Value → World → Prop) (w : World) : Prop :=
  K (.bool true) w
def s4_p1_den (K : Value → World → Prop) : (Nat → Value) → World → Prop := denL Try.prog [(cd (Try.f4.body.getD .skip) [1, 1, 1, 1, 0]), (cd (Try.f4.body.getD .skip) [1, 1, 1, 1, 1])] (fun _ _ => False) (fun i => (fun _ _ => False)) (s4_R K)
theorem s4_p1_ok (K : Value → World → Prop) (s : Nat → Value) (w : World) (h : s4_p1 K w) : Tr (s4_p1_den K s w) :=
  tr_simple (P := Try.prog) (codes := [(cd (Try.f4.body.getD .skip) [1, 1, 1, 1, 0]), (cd (Try.f4.body.getD .skip) [1, 1, 1, 1, 1])]) (N := (fun _ _ => False)) (N' := (fun _ _ => False)) (X := (fun i => (fun _ _ => False))) (X' := (fun i => (fun _ _ => False))) (R := s4_R K) (s := s) (w := w) (p := s4_p1 K w) (q := s4_p1_den K s w) tr_id (fun i => tr_id) (by kernel_rfl) (by kernel_rfl) @h
def s4_p2 (K : Value → World → Prop) (B1 : List Value → World → Prop) (t3 t9 t10 t11 : Value) (w : World) : Prop :=
  boI .lss t11 t10 (fun t12 w =>
  ifb t12
  (ixs 6 t9 t11 (fun t13 w =>
  ldn 6 t13 (fun t14 w =>
  nw 34 #[(.int .i64 0), (.int .i64 0), (.bool false), (.int .i64 0), (.int .u64 0), (.slice none 0 0)] (fun t5 w =>
  stn 6 t5 t14 (fun w =>
  ldn 6 t5 (fun t15 w =>
  cl Try.prog 13 #[t3, t15] (fun t16 w =>
  fd 0 t3 (fun t17 w =>
  ld1 t17 (fun t18 w =>
  fd 3 t5 (fun t19 w =>
  ld1 t19 (fun t20 w =>
  cl Try.prog 19 #[t18, t20] (fun t21 w =>
  un .not t21 (fun t22 w =>
  ifb t22
  (K (.bool false) w)
  (boI .add t11 (.int .i64 1) (fun t23 w =>
  B1 [t3, t9, t10, t23] w) w)) w) w) w) w) w) w) w) w) w) w) w) w)
  (s4_p1 K w)) w
def s4_p2_den (K : Value → World → Prop) (M1 : (Nat → Value) → World → Prop) : (Nat → Value) → World → Prop := denL Try.prog [(cd (Try.f4.body.getD .skip) [1, 1, 1, 0, 1, 0, 0, 0]), (cd (Try.f4.body.getD .skip) [1, 1, 1, 0, 1, 0, 0, 1, 0]), (cd (Try.f4.body.getD .skip) [1, 1, 1, 0, 1, 0, 0, 1, 1, 0]), (cd (Try.f4.body.getD .skip) [1, 1, 1, 0, 1, 0, 0, 1, 1, 1])] M1 (fun i => (bif Nat.beq i 0 then (s4_p1_den K) else (fun _ _ => False))) (s4_R K)
theorem s4_p2_ok (K : Value → World → Prop) (B1 : List Value → World → Prop) (s : Nat → Value) (w : World) (h : s4_p2 K B1 (s 3) (s 9) (s 10) (s 11) w) : Tr (s4_p2_den K (fun s w => B1 [s 3, s 9, s 10, s 11] w) s w) :=
  tr_simple (P := Try.prog) (codes := [(cd (Try.f4.body.getD .skip) [1, 1, 1, 0, 1, 0, 0, 0]), (cd (Try.f4.body.getD .skip) [1, 1, 1, 0, 1, 0, 0, 1, 0]), (cd (Try.f4.body.getD .skip) [1, 1, 1, 0, 1, 0, 0, 1, 1, 0]), (cd (Try.f4.body.getD .skip) [1, 1, 1, 0, 1, 0, 0, 1, 1, 1])]) (N := (fun s w => B1 [s 3, s 9, s 10, s 11] w)) (N' := (fun s w => B1 [s 3, s 9, s 10, s 11] w)) (X := (fun i => (bif Nat.beq i 0 then (fun s w => s4_p1 K w) else (fun _ _ => False)))) (X' := (fun i => (bif Nat.beq i 0 then (s4_p1_den K) else (fun _ _ => False)))) (R := s4_R K) (s := s) (w := w) (p := s4_p2 K B1 (s 3) (s 9) (s 10) (s 11) w) (q := s4_p2_den K (fun s w => B1 [s 3, s 9, s 10, s 11] w) s w) tr_id (fun i => (tr_bif (fun s w h => s4_p1_ok K s w @h) tr_id)) (by kernel_rfl) (by kernel_rfl) @h
def s4_p3_F (K : Value → World → Prop) (B1 : List Value → World → Prop) (l : List Value) (w : World) : Prop :=
  match l with
  | [t3, t9, t10, t11] => s4_p2 K B1 t3 t9 t10 t11 w
  | _ => False
theorem s4_p3_Fe {K : Value → World → Prop} {B1 : List Value → World → Prop} {t3 t9 t10 t11 : Value} {w : World} : s4_p3_F K B1 [t3, t9, t10, t11] w = s4_p2 K B1 t3 t9 t10 t11 w := by kernel_rfl
def s4_p3 (K : Value → World → Prop) (t3 t9 t10 t11 : Value) (w : World) : Prop :=
  LoopL (s4_p3_F K) [t3, t9, t10, t11] w
def s4_p3_den (K : Value → World → Prop) : (Nat → Value) → World → Prop := fun s w => LoopP (fun M1 s w => s4_p2_den K M1 s w) s w
theorem s4_p3_ok (K : Value → World → Prop) (s : Nat → Value) (w : World) (h : s4_p3 K (s 3) (s 9) (s 10) (s 11) w) : Tr (s4_p3_den K s w) :=
  tr_loop (G := fun N' s w => s4_p2_den K N' s w) (F := s4_p3_F K) (sel := fun s => [s 3, s 9, s 10, s 11]) (s := s) (w := w) (p := s4_p3 K (s 3) (s 9) (s 10) (s 11) w) (q := s4_p3_den K s w) (fun B s w h => s4_p2_ok K B s w @h) (by kernel_rfl) (by kernel_rfl) @h
def s4_p4 (K : Value → World → Prop) (t0 : Value) (w : World) : Prop :=
  cl Try.prog 10 #[t0] (fun t7 w =>
  un .not t7 (fun t8 w =>
  ifb t8
  (K (.bool true) w)
  (nw 28 #[(.slice none 0 0), (.slice none 0 0), (.int .i64 0), (.bool false)] (fun t3 w =>
  lnS t0 (fun t10 w =>
  s4_p3 K t3 t0 t10 (.int .i64 0) w) w) w)) w) w
def s4_p4_den (K : Value → World → Prop) : (Nat → Value) → World → Prop := denL Try.prog [(cd (Try.f4.body.getD .skip) [0]), (cd (Try.f4.body.getD .skip) [1, 0, 0]), (cd (Try.f4.body.getD .skip) [1, 0, 1]), (cd (Try.f4.body.getD .skip) [1, 1, 0]), (cd (Try.f4.body.getD .skip) [1, 1, 1, 0, 0])] (s4_p3_den K) (fun i => (fun _ _ => False)) (s4_R K)
theorem s4_p4_ok (K : Value → World → Prop) (s : Nat → Value) (w : World) (h : s4_p4 K (s 0) w) : Tr (s4_p4_den K s w) :=
  tr_simple (P := Try.prog) (codes := [(cd (Try.f4.body.getD .skip) [0]), (cd (Try.f4.body.getD .skip) [1, 0, 0]), (cd (Try.f4.body.getD .skip) [1, 0, 1]), (cd (Try.f4.body.getD .skip) [1, 1, 0]), (cd (Try.f4.body.getD .skip) [1, 1, 1, 0, 0])]) (N := (fun s w => s4_p3 K (s 3) (s 9) (s 10) (s 11) w)) (N' := (s4_p3_den K)) (X := (fun i => (fun _ _ => False))) (X' := (fun i => (fun _ _ => False))) (R := s4_R K) (s := s) (w := w) (p := s4_p4 K (s 0) w) (q := s4_p4_den K s w) (fun s w h => s4_p3_ok K s w @h) (fun i => tr_id) (by kernel_rfl) (by kernel_rfl) @h
/-- the call, from the text -/
theorem c4 (t0 : Value) {K : Value → World → Prop} {w : World} (h : s4_p4 K t0 w) : cl Try.prog 4 #[t0] K w :=
  calls_of_tr (c := (Try.f4.body.getD .skip)) (fn := Try.f4) (q := s4_p4_den K (st0 #[t0]) w) Try.func4 (by kernel_rfl) (by kernel_rfl) (Nat.le_of_ble_eq_true (by kernel_rfl)) (by kernel_rfl) (by kernel_rfl) (s4_p4_ok K (st0 #[t0]) w @h)

/-! ### function 5 : e2e.octetslaw.CompareAndUTF16 -/
def s5_R (K : Value → World → Prop) (s : Nat → Value) (w : World) : Prop := retv Try.prog s Try.f5.results.toList (fun vs => K (pack vs) w) w
def s5_p1 (K : Value → World → Prop) (w : World) : Prop :=
  K (.bool true) w
def s5_p1_den (K : Value → World → Prop) : (Nat → Value) → World → Prop := denL Try.prog [(cd (Try.f5.body.getD .skip) [1, 1, 1, 1, 0]), (cd (Try.f5.body.getD .skip) [1, 1, 1, 1, 1])] (fun _ _ => False) (fun i => (fun _ _ => False)) (s5_R K)
theorem s5_p1_ok (K : Value → World → Prop) (s : Nat → Value) (w : World) (h : s5_p1 K w) : Tr (s5_p1_den K s w) :=
  tr_simple (P := Try.prog) (codes := [(cd (Try.f5.body.getD .skip) [1, 1, 1, 1, 0]), (cd (Try.f5.body.getD .skip) [1, 1, 1, 1, 1])]) (N := (fun _ _ => False)) (N' := (fun _ _ => False)) (X := (fun i => (fun _ _ => False))) (X' := (fun i => (fun _ _ => False))) (R := s5_R K) (s := s) (w := w) (p := s5_p1 K w) (q := s5_p1_den K s w) tr_id (fun i => tr_id) (by kernel_rfl) (by kernel_rfl) @h
def s5_p2 (K : Value → World → Prop) (B1 : List Value → World → Prop) (t3 t9 t10 t11 : Value) (w : World) : Prop :=
  boI .lss t11 t10 (fun t12 w =>
  ifb t12
  (ixs 6 t9 t11 (fun t13 w =>
  ldn 6 t13 (fun t14 w =>
  nw 34 #[(.int .i64 0), (.int .i64 0), (.bool false), (.int .i64 0), (.int .u64 0), (.slice none 0 0)] (fun t5 w =>
  stn 6 t5 t14 (fun w =>
  ldn 6 t5 (fun t15 w =>
  cl Try.prog 13 #[t3, t15] (fun t16 w =>
  fd 0 t3 (fun t17 w =>
  ld1 t17 (fun t18 w =>
  fd 5 t5 (fun t19 w =>
  ld1 t19 (fun t20 w =>
  fd 3 t5 (fun t21 w =>
  ld1 t21 (fun t22 w =>
  cl Try.prog 20 #[t18, t20, t22] (fun t23 w =>
  un .not t23 (fun t24 w =>
  gd t24 false (fd 5 t5) (fun t26 w =>
  gd t24 false (ld1 t26) (fun t27 w =>
  gd t24 false (cl Try.prog 21 #[t27]) (fun t28 w =>
  gd t24 false (un .not t28) (fun t29 w =>
  pk t24 (.bool true) t29 (fun t30 w =>
  ifb t30
  (K (.bool false) w)
  (boI .add t11 (.int .i64 1) (fun t31 w =>
  B1 [t3, t9, t10, t31] w) w)) w) w) w) w) w) w) w) w) w) w) w) w) w) w) w) w) w) w) w)
  (s5_p1 K w)) w
def s5_p2_den (K : Value → World → Prop) (M1 : (Nat → Value) → World → Prop) : (Nat → Value) → World → Prop := denL Try.prog [(cd (Try.f5.body.getD .skip) [1, 1, 1, 0, 1, 0, 0, 0]), (cd (Try.f5.body.getD .skip) [1, 1, 1, 0, 1, 0, 0, 1, 0]), (cd (Try.f5.body.getD .skip) [1, 1, 1, 0, 1, 0, 0, 1, 1, 0]), (cd (Try.f5.body.getD .skip) [1, 1, 1, 0, 1, 0, 0, 1, 1, 1])] M1 (fun i => (bif Nat.beq i 0 then (s5_p1_den K) else (fun _ _ => False))) (s5_R K)
theorem s5_p2_ok (K : Value → World → Prop) (B1 : List Value → World → Prop) (s : Nat → Value) (w : World) (h : s5_p2 K B1 (s 3) (s 9) (s 10) (s 11) w) : Tr (s5_p2_den K (fun s w => B1 [s 3, s 9, s 10, s 11] w) s w) :=
  tr_simple (P := Try.prog) (codes := [(cd (Try.f5.body.getD .skip) [1, 1, 1, 0, 1, 0, 0, 0]), (cd (Try.f5.body.getD .skip) [1, 1, 1, 0, 1, 0, 0, 1, 0]), (cd (Try.f5.body.getD .skip) [1, 1, 1, 0, 1, 0, 0, 1, 1, 0]), (cd (Try.f5.body.getD .skip) [1, 1, 1, 0, 1, 0, 0, 1, 1, 1])]) (N := (fun s w => B1 [s 3, s 9, s 10, s 11] w)) (N' := (fun s w => B1 [s 3, s 9, s 10, s 11] w)) (X := (fun i => (bif Nat.beq i 0 then (fun s w => s5_p1 K w) else (fun _ _ => False)))) (X' := (fun i => (bif Nat.beq i 0 then (s5_p1_den K) else (fun _ _ => False)))) (R := s5_R K) (s := s) (w := w) (p := s5_p2 K B1 (s 3) (s 9) (s 10) (s 11) w) (q := s5_p2_den K (fun s w => B1 [s 3, s 9, s 10, s 11] w) s w) tr_id (fun i => (tr_bif (fun s w h => s5_p1_ok K s w @h) tr_id)) (by kernel_rfl) (by kernel_rfl) @h
def s5_p3_F (K : Value → World → Prop) (B1 : List Value → World → Prop) (l : List Value) (w : World) : Prop :=
  match l with
  | [t3, t9, t10, t11] => s5_p2 K B1 t3 t9 t10 t11 w
  | _ => False
theorem s5_p3_Fe {K : Value → World → Prop} {B1 : List Value → World → Prop} {t3 t9 t10 t11 : Value} {w : World} : s5_p3_F K B1 [t3, t9, t10, t11] w = s5_p2 K B1 t3 t9 t10 t11 w := by kernel_rfl
def s5_p3 (K : Value → World → Prop) (t3 t9 t10 t11 : Value) (w : World) : Prop :=
  LoopL (s5_p3_F K) [t3, t9, t10, t11] w
def s5_p3_den (K : Value → World → Prop) : (Nat → Value) → World → Prop := fun s w => LoopP (fun M1 s w => s5_p2_den K M1 s w) s w
theorem s5_p3_ok (K : Value → World → Prop) (s : Nat → Value) (w : World) (h : s5_p3 K (s 3) (s 9) (s 10) (s 11) w) : Tr (s5_p3_den K s w) :=
  tr_loop (G := fun N' s w => s5_p2_den K N' s w) (F := s5_p3_F K) (sel := fun s => [s 3, s 9, s 10, s 11]) (s := s) (w := w) (p := s5_p3 K (s 3) (s 9) (s 10) (s 11) w) (q := s5_p3_den K s w) (fun B s w h => s5_p2_ok K B s w @h) (by kernel_rfl) (by kernel_rfl) @h
def s5_p4 (K : Value → World → Prop) (t0 : Value) (w : World) : Prop :=
  cl Try.prog 10 #[t0] (fun t7 w =>
  un .not t7 (fun t8 w =>
  ifb t8
  (K (.bool true) w)
  (nw 28 #[(.slice none 0 0), (.slice none 0 0), (.int .i64 0), (.bool false)] (fun t3 w =>
  lnS t0 (fun t10 w =>
  s5_p3 K t3 t0 t10 (.int .i64 0) w) w) w)) w) w
def s5_p4_den (K : Value → World → Prop) : (Nat → Value) → World → Prop := denL Try.prog [(cd (Try.f5.body.getD .skip) [0]), (cd (Try.f5.body.getD .skip) [1, 0, 0]), (cd (Try.f5.body.getD .skip) [1, 0, 1]), (cd (Try.f5.body.getD .skip) [1, 1, 0]), (cd (Try.f5.body.getD .skip) [1, 1, 1, 0, 0])] (s5_p3_den K) (fun i => (fun _ _ => False)) (s5_R K)
theorem s5_p4_ok (K : Value → World → Prop) (s : Nat → Value) (w : World) (h : s5_p4 K (s 0) w) : Tr (s5_p4_den K s w) :=
  tr_simple (P := Try.prog) (codes := [(cd (Try.f5.body.getD .skip) [0]), (cd (Try.f5.body.getD .skip) [1, 0, 0]), (cd (Try.f5.body.getD .skip) [1, 0, 1]), (cd (Try.f5.body.getD .skip) [1, 1, 0]), (cd (Try.f5.body.getD .skip) [1, 1, 1, 0, 0])]) (N := (fun s w => s5_p3 K (s 3) (s 9) (s 10) (s 11) w)) (N' := (s5_p3_den K)) (X := (fun i => (fun _ _ => False))) (X' := (fun i => (fun _ _ => False))) (R := s5_R K) (s := s) (w := w) (p := s5_p4 K (s 0) w) (q := s5_p4_den K s w) (fun s w h => s5_p3_ok K s w @h) (fun i => tr_id) (by kernel_rfl) (by kernel_rfl) @h
/-- the call, from the text -/
theorem c5 (t0 : Value) {K : Value → World → Prop} {w : World} (h : s5_p4 K t0 w) : cl Try.prog 5 #[t0] K w :=
  calls_of_tr (c := (Try.f5.body.getD .skip)) (fn := Try.f5) (q := s5_p4_den K (st0 #[t0]) w) Try.func5 (by kernel_rfl) (by kernel_rfl) (Nat.le_of_ble_eq_true (by kernel_rfl)) (by kernel_rfl) (by kernel_rfl) (s5_p4_ok K (st0 #[t0]) w @h)

/-! ### function 6 : e2e.octetslaw.SumIsOnesComplement -/
def s6_R (K : Value → World → Prop) (s : Nat → Value) (w : World) : Prop := retv Try.prog s Try.f6.results.toList (fun vs => K (pack vs) w) w
def s6_p1 (K : Value → World → Prop) (w : World) : Prop :=
  K (.bool true) w
def s6_p1_den (K : Value → World → Prop) : (Nat → Value) → World → Prop := denL Try.prog [(cd (Try.f6.body.getD .skip) [1, 1, 1, 1, 0]), (cd (Try.f6.body.getD .skip) [1, 1, 1, 1, 1])] (fun _ _ => False) (fun i => (fun _ _ => False)) (s6_R K)
theorem s6_p1_ok (K : Value → World → Prop) (s : Nat → Value) (w : World) (h : s6_p1 K w) : Tr (s6_p1_den K s w) :=
  tr_simple (P := Try.prog) (codes := [(cd (Try.f6.body.getD .skip) [1, 1, 1, 1, 0]), (cd (Try.f6.body.getD .skip) [1, 1, 1, 1, 1])]) (N := (fun _ _ => False)) (N' := (fun _ _ => False)) (X := (fun i => (fun _ _ => False))) (X' := (fun i => (fun _ _ => False))) (R := s6_R K) (s := s) (w := w) (p := s6_p1 K w) (q := s6_p1_den K s w) tr_id (fun i => tr_id) (by kernel_rfl) (by kernel_rfl) @h
def s6_p2 (K : Value → World → Prop) (B1 : List Value → World → Prop) (t3 t12 t13 t14 : Value) (w : World) : Prop :=
  boI .lss t14 t13 (fun t15 w =>
  ifb t15
  (ixs 6 t12 t14 (fun t16 w =>
  ldn 6 t16 (fun t17 w =>
  nw 34 #[(.int .i64 0), (.int .i64 0), (.bool false), (.int .i64 0), (.int .u64 0), (.slice none 0 0)] (fun t5 w =>
  stn 6 t5 t17 (fun w =>
  ldn 6 t5 (fun t18 w =>
  cl Try.prog 13 #[t3, t18] (fun t19 w =>
  fd 0 t3 (fun t20 w =>
  ld1 t20 (fun t21 w =>
  fd 5 t5 (fun t22 w =>
  ld1 t22 (fun t23 w =>
  lnS t21 (fun t25 w =>
  cl Try.prog 22 #[t23, t25] (fun t26 w =>
  fd 4 t5 (fun t27 w =>
  ld1 t27 (fun t28 w =>
  fd 2 t5 (fun t29 w =>
  ld1 t29 (fun t30 w =>
  cl Try.prog 23 #[t28, (.int .i64 8), t30] (fun t31 w =>
  lnS t21 (fun t33 w =>
  cl Try.prog 22 #[t31, t33] (fun t34 w =>
  cl Try.prog 24 #[t21, t26, t34] (fun t38 w =>
  un .not t38 (fun t39 w =>
  ifb t39
  (K (.bool false) w)
  (boI .add t14 (.int .i64 1) (fun t40 w =>
  B1 [t3, t12, t13, t40] w) w)) w) w) w) w) w) w) w) w) w) w) w) w) w) w) w) w) w) w) w) w) w)
  (s6_p1 K w)) w
def s6_p2_den (K : Value → World → Prop) (M1 : (Nat → Value) → World → Prop) : (Nat → Value) → World → Prop := denL Try.prog [(cd (Try.f6.body.getD .skip) [1, 1, 1, 0, 1, 0, 0, 0]), (cd (Try.f6.body.getD .skip) [1, 1, 1, 0, 1, 0, 0, 1, 0]), (cd (Try.f6.body.getD .skip) [1, 1, 1, 0, 1, 0, 0, 1, 1, 0]), (cd (Try.f6.body.getD .skip) [1, 1, 1, 0, 1, 0, 0, 1, 1, 1])] M1 (fun i => (bif Nat.beq i 0 then (s6_p1_den K) else (fun _ _ => False))) (s6_R K)
theorem s6_p2_ok (K : Value → World → Prop) (B1 : List Value → World → Prop) (s : Nat → Value) (w : World) (h : s6_p2 K B1 (s 3) (s 12) (s 13) (s 14) w) : Tr (s6_p2_den K (fun s w => B1 [s 3, s 12, s 13, s 14] w) s w) :=
  tr_simple (P := Try.prog) (codes := [(cd (Try.f6.body.getD .skip) [1, 1, 1, 0, 1, 0, 0, 0]), (cd (Try.f6.body.getD .skip) [1, 1, 1, 0, 1, 0, 0, 1, 0]), (cd (Try.f6.body.getD .skip) [1, 1, 1, 0, 1, 0, 0, 1, 1, 0]), (cd (Try.f6.body.getD .skip) [1, 1, 1, 0, 1, 0, 0, 1, 1, 1])]) (N := (fun s w => B1 [s 3, s 12, s 13, s 14] w)) (N' := (fun s w => B1 [s 3, s 12, s 13, s 14] w)) (X := (fun i => (bif Nat.beq i 0 then (fun s w => s6_p1 K w) else (fun _ _ => False)))) (X' := (fun i => (bif Nat.beq i 0 then (s6_p1_den K) else (fun _ _ => False)))) (R := s6_R K) (s := s) (w := w) (p := s6_p2 K B1 (s 3) (s 12) (s 13) (s 14) w) (q := s6_p2_den K (fun s w => B1 [s 3, s 12, s 13, s 14] w) s w) tr_id (fun i => (tr_bif (fun s w h => s6_p1_ok K s w @h) tr_id)) (by kernel_rfl) (by kernel_rfl) @h
def s6_p3_F (K : Value → World → Prop) (B1 : List Value → World → Prop) (l : List Value) (w : World) : Prop :=
  match l with
  | [t3, t12, t13, t14] => s6_p2 K B1 t3 t12 t13 t14 w
  | _ => False
theorem s6_p3_Fe {K : Value → World → Prop} {B1 : List Value → World → Prop} {t3 t12 t13 t14 : Value} {w : World} : s6_p3_F K B1 [t3, t12, t13, t14] w = s6_p2 K B1 t3 t12 t13 t14 w := by kernel_rfl
def s6_p3 (K : Value → World → Prop) (t3 t12 t13 t14 : Value) (w : World) : Prop :=
  LoopL (s6_p3_F K) [t3, t12, t13, t14] w
def s6_p3_den (K : Value → World → Prop) : (Nat → Value) → World → Prop := fun s w => LoopP (fun M1 s w => s6_p2_den K M1 s w) s w
theorem s6_p3_ok (K : Value → World → Prop) (s : Nat → Value) (w : World) (h : s6_p3 K (s 3) (s 12) (s 13) (s 14) w) : Tr (s6_p3_den K s w) :=
  tr_loop (G := fun N' s w => s6_p2_den K N' s w) (F := s6_p3_F K) (sel := fun s => [s 3, s 12, s 13, s 14]) (s := s) (w := w) (p := s6_p3 K (s 3) (s 12) (s 13) (s 14) w) (q := s6_p3_den K s w) (fun B s w h => s6_p2_ok K B s w @h) (by kernel_rfl) (by kernel_rfl) @h
def s6_p4 (K : Value → World → Prop) (t0 : Value) (w : World) : Prop :=
  cl Try.prog 10 #[t0] (fun t10 w =>
  un .not t10 (fun t11 w =>
  ifb t11
  (K (.bool true) w)
  (nw 28 #[(.slice none 0 0), (.slice none 0 0), (.int .i64 0), (.bool false)] (fun t3 w =>
  lnS t0 (fun t13 w =>
  s6_p3 K t3 t0 t13 (.int .i64 0) w) w) w)) w) w
def s6_p4_den (K : Value → World → Prop) : (Nat → Value) → World → Prop := denL Try.prog [(cd (Try.f6.body.getD .skip) [0]), (cd (Try.f6.body.getD .skip) [1, 0, 0]), (cd (Try.f6.body.getD .skip) [1, 0, 1]), (cd (Try.f6.body.getD .skip) [1, 1, 0]), (cd (Try.f6.body.getD .skip) [1, 1, 1, 0, 0])] (s6_p3_den K) (fun i => (fun _ _ => False)) (s6_R K)
theorem s6_p4_ok (K : Value → World → Prop) (s : Nat → Value) (w : World) (h : s6_p4 K (s 0) w) : Tr (s6_p4_den K s w) :=
  tr_simple (P := Try.prog) (codes := [(cd (Try.f6.body.getD .skip) [0]), (cd (Try.f6.body.getD .skip) [1, 0, 0]), (cd (Try.f6.body.getD .skip) [1, 0, 1]), (cd (Try.f6.body.getD .skip) [1, 1, 0]), (cd (Try.f6.body.getD .skip) [1, 1, 1, 0, 0])]) (N := (fun s w => s6_p3 K (s 3) (s 12) (s 13) (s 14) w)) (N' := (s6_p3_den K)) (X := (fun i => (fun _ _ => False))) (X' := (fun i => (fun _ _ => False))) (R := s6_R K) (s := s) (w := w) (p := s6_p4 K (s 0) w) (q := s6_p4_den K s w) (fun s w h => s6_p3_ok K s w @h) (fun i => tr_id) (by kernel_rfl) (by kernel_rfl) @h
/-- the call, from the text -/
theorem c6 (t0 : Value) {K : Value → World → Prop} {w : World} (h : s6_p4 K t0 w) : cl Try.prog 6 #[t0] K w :=
  calls_of_tr (c := (Try.f6.body.getD .skip)) (fn := Try.f6) (q := s6_p4_den K (st0 #[t0]) w) Try.func6 (by kernel_rfl) (by kernel_rfl) (Nat.le_of_ble_eq_true (by kernel_rfl)) (by kernel_rfl) (by kernel_rfl) (s6_p4_ok K (st0 #[t0]) w @h)

/-! ### function 7 : e2e.octetslaw.StoreThenLoad -/
def s7_R (K : Value → World → Prop) (s : Nat → Value) (w : World) : Prop := retv Try.prog s Try.f7.results.toList (fun vs => K (pack vs) w) w
def s7_p1 (K : Value → World → Prop) (w : World) : Prop :=
  K (.bool true) w
def s7_p1_den (K : Value → World → Prop) : (Nat → Value) → World → Prop := denL Try.prog [(cd (Try.f7.body.getD .skip) [1, 1, 1, 1, 0]), (cd (Try.f7.body.getD .skip) [1, 1, 1, 1, 1])] (fun _ _ => False) (fun i => (fun _ _ => False)) (s7_R K)
theorem s7_p1_ok (K : Value → World → Prop) (s : Nat → Value) (w : World) (h : s7_p1 K w) : Tr (s7_p1_den K s w) :=
  tr_simple (P := Try.prog) (codes := [(cd (Try.f7.body.getD .skip) [1, 1, 1, 1, 0]), (cd (Try.f7.body.getD .skip) [1, 1, 1, 1, 1])]) (N := (fun _ _ => False)) (N' := (fun _ _ => False)) (X := (fun i => (fun _ _ => False))) (X' := (fun i => (fun _ _ => False))) (R := s7_R K) (s := s) (w := w) (p := s7_p1 K w) (q := s7_p1_den K s w) tr_id (fun i => tr_id) (by kernel_rfl) (by kernel_rfl) @h
def s7_p2 (K : Value → World → Prop) (B1 : List Value → World → Prop) (t3 t11 t12 t13 : Value) (w : World) : Prop :=
  boI .add t13 (.int .i64 1) (fun t39 w =>
  B1 [t3, t11, t12, t39] w) w
def s7_p2_den (K : Value → World → Prop) (M1 : (Nat → Value) → World → Prop) : (Nat → Value) → World → Prop := denL Try.prog [(cd (Try.f7.body.getD .skip) [1, 1, 1, 0, 1, 0, 0, 1, 1, 1])] M1 (fun i => (bif Nat.beq i 0 then (s7_p1_den K) else (fun _ _ => False))) (s7_R K)
theorem s7_p2_ok (K : Value → World → Prop) (B1 : List Value → World → Prop) (s : Nat → Value) (w : World) (h : s7_p2 K B1 (s 3) (s 11) (s 12) (s 13) w) : Tr (s7_p2_den K (fun s w => B1 [s 3, s 11, s 12, s 13] w) s w) :=
  tr_simple (P := Try.prog) (codes := [(cd (Try.f7.body.getD .skip) [1, 1, 1, 0, 1, 0, 0, 1, 1, 1])]) (N := (fun s w => B1 [s 3, s 11, s 12, s 13] w)) (N' := (fun s w => B1 [s 3, s 11, s 12, s 13] w)) (X := (fun i => (bif Nat.beq i 0 then (fun s w => s7_p1 K w) else (fun _ _ => False)))) (X' := (fun i => (bif Nat.beq i 0 then (s7_p1_den K) else (fun _ _ => False)))) (R := s7_R K) (s := s) (w := w) (p := s7_p2 K B1 (s 3) (s 11) (s 12) (s 13) w) (q := s7_p2_den K (fun s w => B1 [s 3, s 11, s 12, s 13] w) s w) tr_id (fun i => (tr_bif (fun s w h => s7_p1_ok K s w @h) tr_id)) (by kernel_rfl) (by kernel_rfl) @h
def s7_p3 (K : Value → World → Prop) (B1 : List Value → World → Prop) (t3 t11 t12 t13 : Value) (w : World) : Prop :=
  fd 0 t3 (fun t35 w =>
  ld1 t35 (fun t36 w =>
  cl Try.prog 26 #[t36] (fun t37 w =>
  un .not t37 (fun t38 w =>
  ifb t38
  (K (.bool false) w)
  (s7_p2 K B1 t3 t11 t12 t13 w)) w) w) w) w
def s7_p3_den (K : Value → World → Prop) (M1 : (Nat → Value) → World → Prop) : (Nat → Value) → World → Prop := denL Try.prog [(cd (Try.f7.body.getD .skip) [1, 1, 1, 0, 1, 0, 0, 1, 1, 0, 0, 1, 1, 1, 0]), (cd (Try.f7.body.getD .skip) [1, 1, 1, 0, 1, 0, 0, 1, 1, 0, 0, 1, 1, 1, 1])] (s7_p2_den K M1) (fun i => (bif Nat.beq i 1 then (s7_p2_den K M1) else (bif Nat.beq i 0 then (s7_p1_den K) else (fun _ _ => False)))) (s7_R K)
theorem s7_p3_ok (K : Value → World → Prop) (B1 : List Value → World → Prop) (s : Nat → Value) (w : World) (h : s7_p3 K B1 (s 3) (s 11) (s 12) (s 13) w) : Tr (s7_p3_den K (fun s w => B1 [s 3, s 11, s 12, s 13] w) s w) :=
  tr_simple (P := Try.prog) (codes := [(cd (Try.f7.body.getD .skip) [1, 1, 1, 0, 1, 0, 0, 1, 1, 0, 0, 1, 1, 1, 0]), (cd (Try.f7.body.getD .skip) [1, 1, 1, 0, 1, 0, 0, 1, 1, 0, 0, 1, 1, 1, 1])]) (N := (fun s w => s7_p2 K B1 (s 3) (s 11) (s 12) (s 13) w)) (N' := (s7_p2_den K (fun s w => B1 [s 3, s 11, s 12, s 13] w))) (X := (fun i => (bif Nat.beq i 1 then (fun s w => s7_p2 K B1 (s 3) (s 11) (s 12) (s 13) w) else (bif Nat.beq i 0 then (fun s w => s7_p1 K w) else (fun _ _ => False))))) (X' := (fun i => (bif Nat.beq i 1 then (s7_p2_den K (fun s w => B1 [s 3, s 11, s 12, s 13] w)) else (bif Nat.beq i 0 then (s7_p1_den K) else (fun _ _ => False))))) (R := s7_R K) (s := s) (w := w) (p := s7_p3 K B1 (s 3) (s 11) (s 12) (s 13) w) (q := s7_p3_den K (fun s w => B1 [s 3, s 11, s 12, s 13] w) s w) (fun s w h => s7_p2_ok K B1 s w @h) (fun i => (tr_bif (fun s w h => s7_p2_ok K B1 s w @h) (tr_bif (fun s w h => s7_p1_ok K s w @h) tr_id))) (by kernel_rfl) (by kernel_rfl) @h
def s7_p4 (K : Value → World → Prop) (B1 : List Value → World → Prop) (B2 : List Value → World → Prop) (t3 t5 t11 t12 t13 t19 t20 t21 : Value) (w : World) : Prop :=
  boI .lss t21 t20 (fun t22 w =>
  ifb t22
  (ixs 1 t19 t21 (fun t23 w =>
  ld1 t23 (fun t24 w =>
  fd 0 t3 (fun t25 w =>
  ld1 t25 (fun t26 w =>
  fd 3 t5 (fun t27 w =>
  ld1 t27 (fun t28 w =>
  fd 4 t5 (fun t30 w =>
  ld1 t30 (fun t31 w =>
  cl Try.prog 25 #[t26, t28, t24, t31] (fun t32 w =>
  un .not t32 (fun t33 w =>
  ifb t33
  (K (.bool false) w)
  (boI .add t21 (.int .i64 1) (fun t34 w =>
  B2 [t3, t5, t11, t12, t13, t19, t20, t34] w) w)) w) w) w) w) w) w) w) w) w) w)
  (s7_p3 K B1 t3 t11 t12 t13 w)) w
def s7_p4_den (K : Value → World → Prop) (M1 : (Nat → Value) → World → Prop) (M2 : (Nat → Value) → World → Prop) : (Nat → Value) → World → Prop := denL Try.prog [(cd (Try.f7.body.getD .skip) [1, 1, 1, 0, 1, 0, 0, 1, 1, 0, 0, 1, 1, 0, 1, 0, 0, 0]), (cd (Try.f7.body.getD .skip) [1, 1, 1, 0, 1, 0, 0, 1, 1, 0, 0, 1, 1, 0, 1, 0, 0, 1, 0]), (cd (Try.f7.body.getD .skip) [1, 1, 1, 0, 1, 0, 0, 1, 1, 0, 0, 1, 1, 0, 1, 0, 0, 1, 1, 0]), (cd (Try.f7.body.getD .skip) [1, 1, 1, 0, 1, 0, 0, 1, 1, 0, 0, 1, 1, 0, 1, 0, 0, 1, 1, 1])] M2 (fun i => (bif Nat.beq i 2 then (s7_p3_den K M1) else (bif Nat.beq i 1 then (s7_p2_den K M1) else (bif Nat.beq i 0 then (s7_p1_den K) else (fun _ _ => False))))) (s7_R K)
theorem s7_p4_ok (K : Value → World → Prop) (B1 : List Value → World → Prop) (B2 : List Value → World → Prop) (s : Nat → Value) (w : World) (h : s7_p4 K B1 B2 (s 3) (s 5) (s 11) (s 12) (s 13) (s 19) (s 20) (s 21) w) : Tr (s7_p4_den K (fun s w => B1 [s 3, s 11, s 12, s 13] w) (fun s w => B2 [s 3, s 5, s 11, s 12, s 13, s 19, s 20, s 21] w) s w) :=
  tr_simple (P := Try.prog) (codes := [(cd (Try.f7.body.getD .skip) [1, 1, 1, 0, 1, 0, 0, 1, 1, 0, 0, 1, 1, 0, 1, 0, 0, 0]), (cd (Try.f7.body.getD .skip) [1, 1, 1, 0, 1, 0, 0, 1, 1, 0, 0, 1, 1, 0, 1, 0, 0, 1, 0]), (cd (Try.f7.body.getD .skip) [1, 1, 1, 0, 1, 0, 0, 1, 1, 0, 0, 1, 1, 0, 1, 0, 0, 1, 1, 0]), (cd (Try.f7.body.getD .skip) [1, 1, 1, 0, 1, 0, 0, 1, 1, 0, 0, 1, 1, 0, 1, 0, 0, 1, 1, 1])]) (N := (fun s w => B2 [s 3, s 5, s 11, s 12, s 13, s 19, s 20, s 21] w)) (N' := (fun s w => B2 [s 3, s 5, s 11, s 12, s 13, s 19, s 20, s 21] w)) (X := (fun i => (bif Nat.beq i 2 then (fun s w => s7_p3 K B1 (s 3) (s 11) (s 12) (s 13) w) else (bif Nat.beq i 1 then (fun s w => s7_p2 K B1 (s 3) (s 11) (s 12) (s 13) w) else (bif Nat.beq i 0 then (fun s w => s7_p1 K w) else (fun _ _ => False)))))) (X' := (fun i => (bif Nat.beq i 2 then (s7_p3_den K (fun s w => B1 [s 3, s 11, s 12, s 13] w)) else (bif Nat.beq i 1 then (s7_p2_den K (fun s w => B1 [s 3, s 11, s 12, s 13] w)) else (bif Nat.beq i 0 then (s7_p1_den K) else (fun _ _ => False)))))) (R := s7_R K) (s := s) (w := w) (p := s7_p4 K B1 B2 (s 3) (s 5) (s 11) (s 12) (s 13) (s 19) (s 20) (s 21) w) (q := s7_p4_den K (fun s w => B1 [s 3, s 11, s 12, s 13] w) (fun s w => B2 [s 3, s 5, s 11, s 12, s 13, s 19, s 20, s 21] w) s w) tr_id (fun i => (tr_bif (fun s w h => s7_p3_ok K B1 s w @h) (tr_bif (fun s w h => s7_p2_ok K B1 s w @h) (tr_bif (fun s w h => s7_p1_ok K s w @h) tr_id)))) (by kernel_rfl) (by kernel_rfl) @h
def s7_p5_F (K : Value → World → Prop) (B1 : List Value → World → Prop) (B2 : List Value → World → Prop) (l : List Value) (w : World) : Prop :=
  match l with
  | [t3, t5, t11, t12, t13, t19, t20, t21] => s7_p4 K B1 B2 t3 t5 t11 t12 t13 t19 t20 t21 w
  | _ => False
theorem s7_p5_Fe {K : Value → World → Prop} {B1 : List Value → World → Prop} {B2 : List Value → World → Prop} {t3 t5 t11 t12 t13 t19 t20 t21 : Value} {w : World} : s7_p5_F K B1 B2 [t3, t5, t11, t12, t13, t19, t20, t21] w = s7_p4 K B1 B2 t3 t5 t11 t12 t13 t19 t20 t21 w := by kernel_rfl
def s7_p5 (K : Value → World → Prop) (B1 : List Value → World → Prop) (t3 t5 t11 t12 t13 t19 t20 t21 : Value) (w : World) : Prop :=
  LoopL (s7_p5_F K B1) [t3, t5, t11, t12, t13, t19, t20, t21] w
def s7_p5_den (K : Value → World → Prop) (M1 : (Nat → Value) → World → Prop) : (Nat → Value) → World → Prop := fun s w => LoopP (fun M2 s w => s7_p4_den K M1 M2 s w) s w
theorem s7_p5_ok (K : Value → World → Prop) (B1 : List Value → World → Prop) (s : Nat → Value) (w : World) (h : s7_p5 K B1 (s 3) (s 5) (s 11) (s 12) (s 13) (s 19) (s 20) (s 21) w) : Tr (s7_p5_den K (fun s w => B1 [s 3, s 11, s 12, s 13] w) s w) :=
  tr_loop (G := fun N' s w => s7_p4_den K (fun s w => B1 [s 3, s 11, s 12, s 13] w) N' s w) (F := s7_p5_F K B1) (sel := fun s => [s 3, s 5, s 11, s 12, s 13, s 19, s 20, s 21]) (s := s) (w := w) (p := s7_p5 K B1 (s 3) (s 5) (s 11) (s 12) (s 13) (s 19) (s 20) (s 21) w) (q := s7_p5_den K (fun s w => B1 [s 3, s 11, s 12, s 13] w) s w) (fun B s w h => s7_p4_ok K B1 B s w @h) (by kernel_rfl) (by kernel_rfl) @h
def s7_p6 (K : Value → World → Prop) (B1 : List Value → World → Prop) (t3 t11 t12 t13 : Value) (w : World) : Prop :=
  ixs 6 t11 t13 (fun t15 w =>
  ldn 6 t15 (fun t16 w =>
  nw 34 #[(.int .i64 0), (.int .i64 0), (.bool false), (.int .i64 0), (.int .u64 0), (.slice none 0 0)] (fun t5 w =>
  stn 6 t5 t16 (fun w =>
  ldn 6 t5 (fun t17 w =>
  cl Try.prog 13 #[t3, t17] (fun t18 w =>
  bsq 3 [(.int .i64 0)] 3 [(some (0, 1), (.int .i64 2)), (some (1, 1), (.int .i64 4)), (some (2, 1), (.int .i64 8))] (fun t19 w =>
  lnS t19 (fun t20 w =>
  s7_p5 K B1 t3 t5 t11 t12 t13 t19 t20 (.int .i64 0) w) w) w) w) w) w) w) w) w
def s7_p6_den (K : Value → World → Prop) (M1 : (Nat → Value) → World → Prop) : (Nat → Value) → World → Prop := denL Try.prog [(cd (Try.f7.body.getD .skip) [1, 1, 1, 0, 1, 0, 0, 1, 1, 0, 0, 0]), (cd (Try.f7.body.getD .skip) [1, 1, 1, 0, 1, 0, 0, 1, 1, 0, 0, 1, 0]), (cd (Try.f7.body.getD .skip) [1, 1, 1, 0, 1, 0, 0, 1, 1, 0, 0, 1, 1, 0, 0])] (s7_p5_den K M1) (fun i => (bif Nat.beq i 1 then (s7_p2_den K M1) else (bif Nat.beq i 0 then (s7_p1_den K) else (fun _ _ => False)))) (s7_R K)
theorem s7_p6_ok (K : Value → World → Prop) (B1 : List Value → World → Prop) (s : Nat → Value) (w : World) (h : s7_p6 K B1 (s 3) (s 11) (s 12) (s 13) w) : Tr (s7_p6_den K (fun s w => B1 [s 3, s 11, s 12, s 13] w) s w) :=
  tr_simple (P := Try.prog) (codes := [(cd (Try.f7.body.getD .skip) [1, 1, 1, 0, 1, 0, 0, 1, 1, 0, 0, 0]), (cd (Try.f7.body.getD .skip) [1, 1, 1, 0, 1, 0, 0, 1, 1, 0, 0, 1, 0]), (cd (Try.f7.body.getD .skip) [1, 1, 1, 0, 1, 0, 0, 1, 1, 0, 0, 1, 1, 0, 0])]) (N := (fun s w => s7_p5 K B1 (s 3) (s 5) (s 11) (s 12) (s 13) (s 19) (s 20) (s 21) w)) (N' := (s7_p5_den K (fun s w => B1 [s 3, s 11, s 12, s 13] w))) (X := (fun i => (bif Nat.beq i 1 then (fun s w => s7_p2 K B1 (s 3) (s 11) (s 12) (s 13) w) else (bif Nat.beq i 0 then (fun s w => s7_p1 K w) else (fun _ _ => False))))) (X' := (fun i => (bif Nat.beq i 1 then (s7_p2_den K (fun s w => B1 [s 3, s 11, s 12, s 13] w)) else (bif Nat.beq i 0 then (s7_p1_den K) else (fun _ _ => False))))) (R := s7_R K) (s := s) (w := w) (p := s7_p6 K B1 (s 3) (s 11) (s 12) (s 13) w) (q := s7_p6_den K (fun s w => B1 [s 3, s 11, s 12, s 13] w) s w) (fun s w h => s7_p5_ok K B1 s w @h) (fun i => (tr_bif (fun s w h => s7_p2_ok K B1 s w @h) (tr_bif (fun s w h => s7_p1_ok K s w @h) tr_id))) (by kernel_rfl) (by kernel_rfl) @h
def s7_p7 (K : Value → World → Prop) (B1 : List Value → World → Prop) (t3 t11 t12 t13 : Value) (w : World) : Prop :=
  boI .lss t13 t12 (fun t14 w =>
  ifb t14
  (s7_p6 K B1 t3 t11 t12 t13 w)
  (s7_p1 K w)) w
def s7_p7_den (K : Value → World → Prop) (M1 : (Nat → Value) → World → Prop) : (Nat → Value) → World → Prop := denL Try.prog [(cd (Try.f7.body.getD .skip) [1, 1, 1, 0, 1, 0, 0, 0]), (cd (Try.f7.body.getD .skip) [1, 1, 1, 0, 1, 0, 0, 1, 0])] (s7_p6_den K M1) (fun i => (bif Nat.beq i 0 then (s7_p1_den K) else (fun _ _ => False))) (s7_R K)
theorem s7_p7_ok (K : Value → World → Prop) (B1 : List Value → World → Prop) (s : Nat → Value) (w : World) (h : s7_p7 K B1 (s 3) (s 11) (s 12) (s 13) w) : Tr (s7_p7_den K (fun s w => B1 [s 3, s 11, s 12, s 13] w) s w) :=
  tr_simple (P := Try.prog) (codes := [(cd (Try.f7.body.getD .skip) [1, 1, 1, 0, 1, 0, 0, 0]), (cd (Try.f7.body.getD .skip) [1, 1, 1, 0, 1, 0, 0, 1, 0])]) (N := (fun s w => s7_p6 K B1 (s 3) (s 11) (s 12) (s 13) w)) (N' := (s7_p6_den K (fun s w => B1 [s 3, s 11, s 12, s 13] w))) (X := (fun i => (bif Nat.beq i 0 then (fun s w => s7_p1 K w) else (fun _ _ => False)))) (X' := (fun i => (bif Nat.beq i 0 then (s7_p1_den K) else (fun _ _ => False)))) (R := s7_R K) (s := s) (w := w) (p := s7_p7 K B1 (s 3) (s 11) (s 12) (s 13) w) (q := s7_p7_den K (fun s w => B1 [s 3, s 11, s 12, s 13] w) s w) (fun s w h => s7_p6_ok K B1 s w @h) (fun i => (tr_bif (fun s w h => s7_p1_ok K s w @h) tr_id)) (by kernel_rfl) (by kernel_rfl) @h
def s7_p8_F (K : Value → World → Prop) (B1 : List Value → World → Prop) (l : List Value) (w : World) : Prop :=
  match l with
  | [t3, t11, t12, t13] => s7_p7 K B1 t3 t11 t12 t13 w
  | _ => False
theorem s7_p8_Fe {K : Value → World → Prop} {B1 : List Value → World → Prop} {t3 t11 t12 t13 : Value} {w : World} : s7_p8_F K B1 [t3, t11, t12, t13] w = s7_p7 K B1 t3 t11 t12 t13 w := by kernel_rfl
def s7_p8 (K : Value → World → Prop) (t3 t11 t12 t13 : Value) (w : World) : Prop :=
  LoopL (s7_p8_F K) [t3, t11, t12, t13] w
def s7_p8_den (K : Value → World → Prop) : (Nat → Value) → World → Prop := fun s w => LoopP (fun M1 s w => s7_p7_den K M1 s w) s w
theorem s7_p8_ok (K : Value → World → Prop) (s : Nat → Value) (w : World) (h : s7_p8 K (s 3) (s 11) (s 12) (s 13) w) : Tr (s7_p8_den K s w) :=
  tr_loop (G := fun N' s w => s7_p7_den K N' s w) (F := s7_p8_F K) (sel := fun s => [s 3, s 11, s 12, s 13]) (s := s) (w := w) (p := s7_p8 K (s 3) (s 11) (s 12) (s 13) w) (q := s7_p8_den K s w) (fun B s w h => s7_p7_ok K B s w @h) (by kernel_rfl) (by kernel_rfl) @h
def s7_p9 (K : Value → World → Prop) (t0 : Value) (w : World) : Prop :=
  cl Try.prog 10 #[t0] (fun t9 w =>
  un .not t9 (fun t10 w =>
  ifb t10
  (K (.bool true) w)
  (nw 28 #[(.slice none 0 0), (.slice none 0 0), (.int .i64 0), (.bool false)] (fun t3 w =>
  lnS t0 (fun t12 w =>
  s7_p8 K t3 t0 t12 (.int .i64 0) w) w) w)) w) w
def s7_p9_den (K : Value → World → Prop) : (Nat → Value) → World → Prop := denL Try.prog [(cd (Try.f7.body.getD .skip) [0]), (cd (Try.f7.body.getD .skip) [1, 0, 0]), (cd (Try.f7.body.getD .skip) [1, 0, 1]), (cd (Try.f7.body.getD .skip) [1, 1, 0]), (cd (Try.f7.body.getD .skip) [1, 1, 1, 0, 0])] (s7_p8_den K) (fun i => (fun _ _ => False)) (s7_R K)
theorem s7_p9_ok (K : Value → World → Prop) (s : Nat → Value) (w : World) (h : s7_p9 K (s 0) w) : Tr (s7_p9_den K s w) :=
  tr_simple (P := Try.prog) (codes := [(cd (Try.f7.body.getD .skip) [0]), (cd (Try.f7.body.getD .skip) [1, 0, 0]), (cd (Try.f7.body.getD .skip) [1, 0, 1]), (cd (Try.f7.body.getD .skip) [1, 1, 0]), (cd (Try.f7.body.getD .skip) [1, 1, 1, 0, 0])]) (N := (fun s w => s7_p8 K (s 3) (s 11) (s 12) (s 13) w)) (N' := (s7_p8_den K)) (X := (fun i => (fun _ _ => False))) (X' := (fun i => (fun _ _ => False))) (R := s7_R K) (s := s) (w := w) (p := s7_p9 K (s 0) w) (q := s7_p9_den K s w) (fun s w h => s7_p8_ok K s w @h) (fun i => tr_id) (by kernel_rfl) (by kernel_rfl) @h
/-- the call, from the text -/
theorem c7 (t0 : Value) {K : Value → World → Prop} {w : World} (h : s7_p9 K t0 w) : cl Try.prog 7 #[t0] K w :=
  calls_of_tr (c := (Try.f7.body.getD .skip)) (fn := Try.f7) (q := s7_p9_den K (st0 #[t0]) w) Try.func7 (by kernel_rfl) (by kernel_rfl) (Nat.le_of_ble_eq_true (by kernel_rfl)) (by kernel_rfl) (by kernel_rfl) (s7_p9_ok K (st0 #[t0]) w @h)

/-! ### function 8 : e2e.octetslaw.RefusalTouchesNothing -/
def s8_R (K : Value → World → Prop) (s : Nat → Value) (w : World) : Prop := retv Try.prog s Try.f8.results.toList (fun vs => K (pack vs) w) w
def s8_p1 (K : Value → World → Prop) (w : World) : Prop :=
  K (.bool true) w
def s8_p1_den (K : Value → World → Prop) : (Nat → Value) → World → Prop := denL Try.prog [(cd (Try.f8.body.getD .skip) [1, 1, 1, 1, 0]), (cd (Try.f8.body.getD .skip) [1, 1, 1, 1, 1])] (fun _ _ => False) (fun i => (fun _ _ => False)) (s8_R K)
theorem s8_p1_ok (K : Value → World → Prop) (s : Nat → Value) (w : World) (h : s8_p1 K w) : Tr (s8_p1_den K s w) :=
  tr_simple (P := Try.prog) (codes := [(cd (Try.f8.body.getD .skip) [1, 1, 1, 1, 0]), (cd (Try.f8.body.getD .skip) [1, 1, 1, 1, 1])]) (N := (fun _ _ => False)) (N' := (fun _ _ => False)) (X := (fun i => (fun _ _ => False))) (X' := (fun i => (fun _ _ => False))) (R := s8_R K) (s := s) (w := w) (p := s8_p1 K w) (q := s8_p1_den K s w) tr_id (fun i => tr_id) (by kernel_rfl) (by kernel_rfl) @h
def s8_p2 (K : Value → World → Prop) (B1 : List Value → World → Prop) (t3 t9 t10 t11 : Value) (w : World) : Prop :=
  boI .lss t11 t10 (fun t12 w =>
  ifb t12
  (ixs 6 t9 t11 (fun t13 w =>
  ldn 6 t13 (fun t14 w =>
  nw 34 #[(.int .i64 0), (.int .i64 0), (.bool false), (.int .i64 0), (.int .u64 0), (.slice none 0 0)] (fun t5 w =>
  stn 6 t5 t14 (fun w =>
  ldn 6 t5 (fun t15 w =>
  cl Try.prog 13 #[t3, t15] (fun t16 w =>
  fd 0 t3 (fun t17 w =>
  ld1 t17 (fun t18 w =>
  fd 5 t5 (fun t19 w =>
  ld1 t19 (fun t20 w =>
  cl Try.prog 27 #[t18, t20] (fun t21 w =>
  un .not t21 (fun t22 w =>
  ifb t22
  (K (.bool false) w)
  (boI .add t11 (.int .i64 1) (fun t23 w =>
  B1 [t3, t9, t10, t23] w) w)) w) w) w) w) w) w) w) w) w) w) w) w)
  (s8_p1 K w)) w
def s8_p2_den (K : Value → World → Prop) (M1 : (Nat → Value) → World → Prop) : (Nat → Value) → World → Prop := denL Try.prog [(cd (Try.f8.body.getD .skip) [1, 1, 1, 0, 1, 0, 0, 0]), (cd (Try.f8.body.getD .skip) [1, 1, 1, 0, 1, 0, 0, 1, 0]), (cd (Try.f8.body.getD .skip) [1, 1, 1, 0, 1, 0, 0, 1, 1, 0]), (cd (Try.f8.body.getD .skip) [1, 1, 1, 0, 1, 0, 0, 1, 1, 1])] M1 (fun i => (bif Nat.beq i 0 then (s8_p1_den K) else (fun _ _ => False))) (s8_R K)
theorem s8_p2_ok (K : Value → World → Prop) (B1 : List Value → World → Prop) (s : Nat → Value) (w : World) (h : s8_p2 K B1 (s 3) (s 9) (s 10) (s 11) w) : Tr (s8_p2_den K (fun s w => B1 [s 3, s 9, s 10, s 11] w) s w) :=
  tr_simple (P := Try.prog) (codes := [(cd (Try.f8.body.getD .skip) [1, 1, 1, 0, 1, 0, 0, 0]), (cd (Try.f8.body.getD .skip) [1, 1, 1, 0, 1, 0, 0, 1, 0]), (cd (Try.f8.body.getD .skip) [1, 1, 1, 0, 1, 0, 0, 1, 1, 0]), (cd (Try.f8.body.getD .skip) [1, 1, 1, 0, 1, 0, 0, 1, 1, 1])]) (N := (fun s w => B1 [s 3, s 9, s 10, s 11] w)) (N' := (fun s w => B1 [s 3, s 9, s 10, s 11] w)) (X := (fun i => (bif Nat.beq i 0 then (fun s w => s8_p1 K w) else (fun _ _ => False)))) (X' := (fun i => (bif Nat.beq i 0 then (s8_p1_den K) else (fun _ _ => False)))) (R := s8_R K) (s := s) (w := w) (p := s8_p2 K B1 (s 3) (s 9) (s 10) (s 11) w) (q := s8_p2_den K (fun s w => B1 [s 3, s 9, s 10, s 11] w) s w) tr_id (fun i => (tr_bif (fun s w h => s8_p1_ok K s w @h) tr_id)) (by kernel_rfl) (by kernel_rfl) @h
def s8_p3_F (K : Value → World → Prop) (B1 : List Value → World → Prop) (l : List Value) (w : World) : Prop :=
  match l with
  | [t3, t9, t10, t11] => s8_p2 K B1 t3 t9 t10 t11 w
  | _ => False
theorem s8_p3_Fe {K : Value → World → Prop} {B1 : List Value → World → Prop} {t3 t9 t10 t11 : Value} {w : World} : s8_p3_F K B1 [t3, t9, t10, t11] w = s8_p2 K B1 t3 t9 t10 t11 w := by kernel_rfl
def s8_p3 (K : Value → World → Prop) (t3 t9 t10 t11 : Value) (w : World) : Prop :=
  LoopL (s8_p3_F K) [t3, t9, t10, t11] w
def s8_p3_den (K : Value → World → Prop) : (Nat → Value) → World → Prop := fun s w => LoopP (fun M1 s w => s8_p2_den K M1 s w) s w
theorem s8_p3_ok (K : Value → World → Prop) (s : Nat → Value) (w : World) (h : s8_p3 K (s 3) (s 9) (s 10) (s 11) w) : Tr (s8_p3_den K s w) :=
  tr_loop (G := fun N' s w => s8_p2_den K N' s w) (F := s8_p3_F K) (sel := fun s => [s 3, s 9, s 10, s 11]) (s := s) (w := w) (p := s8_p3 K (s 3) (s 9) (s 10) (s 11) w) (q := s8_p3_den K s w) (fun B s w h => s8_p2_ok K B s w @h) (by kernel_rfl) (by kernel_rfl) @h
def s8_p4 (K : Value → World → Prop) (t0 : Value) (w : World) : Prop :=
  cl Try.prog 10 #[t0] (fun t7 w =>
  un .not t7 (fun t8 w =>
  ifb t8
  (K (.bool true) w)
  (nw 28 #[(.slice none 0 0), (.slice none 0 0), (.int .i64 0), (.bool false)] (fun t3 w =>
  lnS t0 (fun t10 w =>
  s8_p3 K t3 t0 t10 (.int .i64 0) w) w) w)) w) w
def s8_p4_den (K : Value → World → Prop) : (Nat → Value) → World → Prop := denL Try.prog [(cd (Try.f8.body.getD .skip) [0]), (cd (Try.f8.body.getD .skip) [1, 0, 0]), (cd (Try.f8.body.getD .skip) [1, 0, 1]), (cd (Try.f8.body.getD .skip) [1, 1, 0]), (cd (Try.f8.body.getD .skip) [1, 1, 1, 0, 0])] (s8_p3_den K) (fun i => (fun _ _ => False)) (s8_R K)
theorem s8_p4_ok (K : Value → World → Prop) (s : Nat → Value) (w : World) (h : s8_p4 K (s 0) w) : Tr (s8_p4_den K s w) :=
  tr_simple (P := Try.prog) (codes := [(cd (Try.f8.body.getD .skip) [0]), (cd (Try.f8.body.getD .skip) [1, 0, 0]), (cd (Try.f8.body.getD .skip) [1, 0, 1]), (cd (Try.f8.body.getD .skip) [1, 1, 0]), (cd (Try.f8.body.getD .skip) [1, 1, 1, 0, 0])]) (N := (fun s w => s8_p3 K (s 3) (s 9) (s 10) (s 11) w)) (N' := (s8_p3_den K)) (X := (fun i => (fun _ _ => False))) (X' := (fun i => (fun _ _ => False))) (R := s8_R K) (s := s) (w := w) (p := s8_p4 K (s 0) w) (q := s8_p4_den K s w) (fun s w h => s8_p3_ok K s w @h) (fun i => tr_id) (by kernel_rfl) (by kernel_rfl) @h
/-- the call, from the text -/
theorem c8 (t0 : Value) {K : Value → World → Prop} {w : World} (h : s8_p4 K t0 w) : cl Try.prog 8 #[t0] K w :=
  calls_of_tr (c := (Try.f8.body.getD .skip)) (fn := Try.f8) (q := s8_p4_den K (st0 #[t0]) w) Try.func8 (by kernel_rfl) (by kernel_rfl) (Nat.le_of_ble_eq_true (by kernel_rfl)) (by kernel_rfl) (by kernel_rfl) (s8_p4_ok K (st0 #[t0]) w @h)

/-! ### function 10 : e2e.octetslaw.zzSmall1 -/
def s10_R (K : Value → World → Prop) (s : Nat → Value) (w : World) : Prop := retv Try.prog s Try.f10.results.toList (fun vs => K (pack vs) w) w
def s10_p1 (K : Value → World → Prop) (w : World) : Prop :=
  K (.bool true) w
def s10_p1_den (K : Value → World → Prop) : (Nat → Value) → World → Prop := denL Try.prog [(cd (Try.f10.body.getD .skip) [1, 1, 1, 1, 0]), (cd (Try.f10.body.getD .skip) [1, 1, 1, 1, 1])] (fun _ _ => False) (fun i => (fun _ _ => False)) (s10_R K)
theorem s10_p1_ok (K : Value → World → Prop) (s : Nat → Value) (w : World) (h : s10_p1 K w) : Tr (s10_p1_den K s w) :=
  tr_simple (P := Try.prog) (codes := [(cd (Try.f10.body.getD .skip) [1, 1, 1, 1, 0]), (cd (Try.f10.body.getD .skip) [1, 1, 1, 1, 1])]) (N := (fun _ _ => False)) (N' := (fun _ _ => False)) (X := (fun i => (fun _ _ => False))) (X' := (fun i => (fun _ _ => False))) (R := s10_R K) (s := s) (w := w) (p := s10_p1 K w) (q := s10_p1_den K s w) tr_id (fun i => tr_id) (by kernel_rfl) (by kernel_rfl) @h
def s10_p2 (K : Value → World → Prop) (B1 : List Value → World → Prop) (t0 t3 t4 : Value) (w : World) : Prop :=
  lnS t0 (fun t11 w =>
  boI .lss t4 t11 (fun t12 w =>
  ifb t12
  (ixs 6 t0 t4 (fun t18 w =>
  fd 5 t18 (fun t19 w =>
  ld1 t19 (fun t20 w =>
  lnS t20 (fun t21 w =>
  boI .add t3 t21 (fun t22 w =>
  boI .gtr t22 (.int .i64 65536) (fun t24 w =>
  ifb t24
  (K (.bool false) w)
  (boI .add t4 (.int .i64 1) (fun t14 w =>
  B1 [t0, t22, t14] w) w)) w) w) w) w) w) w)
  (s10_p1 K w)) w) w
def s10_p2_den (K : Value → World → Prop) (M1 : (Nat → Value) → World → Prop) : (Nat → Value) → World → Prop := denL Try.prog [(cd (Try.f10.body.getD .skip) [1, 1, 1, 0, 1, 0, 0, 0, 0]), (cd (Try.f10.body.getD .skip) [1, 1, 1, 0, 1, 0, 0, 0, 1]), (cd (Try.f10.body.getD .skip) [1, 1, 1, 0, 1, 0, 0, 1, 0]), (cd (Try.f10.body.getD .skip) [1, 1, 1, 0, 1, 0, 0, 1, 1])] M1 (fun i => (bif Nat.beq i 0 then (s10_p1_den K) else (fun _ _ => False))) (s10_R K)
theorem s10_p2_ok (K : Value → World → Prop) (B1 : List Value → World → Prop) (s : Nat → Value) (w : World) (h : s10_p2 K B1 (s 0) (s 3) (s 4) w) : Tr (s10_p2_den K (fun s w => B1 [s 0, s 3, s 4] w) s w) :=
  tr_simple (P := Try.prog) (codes := [(cd (Try.f10.body.getD .skip) [1, 1, 1, 0, 1, 0, 0, 0, 0]), (cd (Try.f10.body.getD .skip) [1, 1, 1, 0, 1, 0, 0, 0, 1]), (cd (Try.f10.body.getD .skip) [1, 1, 1, 0, 1, 0, 0, 1, 0]), (cd (Try.f10.body.getD .skip) [1, 1, 1, 0, 1, 0, 0, 1, 1])]) (N := (fun s w => B1 [s 0, s 3, s 4] w)) (N' := (fun s w => B1 [s 0, s 3, s 4] w)) (X := (fun i => (bif Nat.beq i 0 then (fun s w => s10_p1 K w) else (fun _ _ => False)))) (X' := (fun i => (bif Nat.beq i 0 then (s10_p1_den K) else (fun _ _ => False)))) (R := s10_R K) (s := s) (w := w) (p := s10_p2 K B1 (s 0) (s 3) (s 4) w) (q := s10_p2_den K (fun s w => B1 [s 0, s 3, s 4] w) s w) tr_id (fun i => (tr_bif (fun s w h => s10_p1_ok K s w @h) tr_id)) (by kernel_rfl) (by kernel_rfl) @h
def s10_p3_F (K : Value → World → Prop) (B1 : List Value → World → Prop) (l : List Value) (w : World) : Prop :=
  match l with
  | [t0, t3, t4] => s10_p2 K B1 t0 t3 t4 w
  | _ => False
theorem s10_p3_Fe {K : Value → World → Prop} {B1 : List Value → World → Prop} {t0 t3 t4 : Value} {w : World} : s10_p3_F K B1 [t0, t3, t4] w = s10_p2 K B1 t0 t3 t4 w := by kernel_rfl
def s10_p3 (K : Value → World → Prop) (t0 t3 t4 : Value) (w : World) : Prop :=
  LoopL (s10_p3_F K) [t0, t3, t4] w
def s10_p3_den (K : Value → World → Prop) : (Nat → Value) → World → Prop := fun s w => LoopP (fun M1 s w => s10_p2_den K M1 s w) s w
theorem s10_p3_ok (K : Value → World → Prop) (s : Nat → Value) (w : World) (h : s10_p3 K (s 0) (s 3) (s 4) w) : Tr (s10_p3_den K s w) :=
  tr_loop (G := fun N' s w => s10_p2_den K N' s w) (F := s10_p3_F K) (sel := fun s => [s 0, s 3, s 4]) (s := s) (w := w) (p := s10_p3 K (s 0) (s 3) (s 4) w) (q := s10_p3_den K s w) (fun B s w h => s10_p2_ok K B s w @h) (by kernel_rfl) (by kernel_rfl) @h
def s10_p4 (K : Value → World → Prop) (t0 : Value) (w : World) : Prop :=
  lnS t0 (fun t6 w =>
  boI .gtr t6 (.int .i64 65536) (fun t8 w =>
  ifb t8
  (K (.bool false) w)
  (s10_p3 K t0 t6 (.int .i64 0) w)) w) w
def s10_p4_den (K : Value → World → Prop) : (Nat → Value) → World → Prop := denL Try.prog [(cd (Try.f10.body.getD .skip) [0]), (cd (Try.f10.body.getD .skip) [1, 0]), (cd (Try.f10.body.getD .skip) [1, 1, 0, 0]), (cd (Try.f10.body.getD .skip) [1, 1, 0, 1]), (cd (Try.f10.body.getD .skip) [1, 1, 1, 0, 0])] (s10_p3_den K) (fun i => (fun _ _ => False)) (s10_R K)
theorem s10_p4_ok (K : Value → World → Prop) (s : Nat → Value) (w : World) (h : s10_p4 K (s 0) w) : Tr (s10_p4_den K s w) :=
  tr_simple (P := Try.prog) (codes := [(cd (Try.f10.body.getD .skip) [0]), (cd (Try.f10.body.getD .skip) [1, 0]), (cd (Try.f10.body.getD .skip) [1, 1, 0, 0]), (cd (Try.f10.body.getD .skip) [1, 1, 0, 1]), (cd (Try.f10.body.getD .skip) [1, 1, 1, 0, 0])]) (N := (fun s w => s10_p3 K (s 0) (s 3) (s 4) w)) (N' := (s10_p3_den K)) (X := (fun i => (fun _ _ => False))) (X' := (fun i => (fun _ _ => False))) (R := s10_R K) (s := s) (w := w) (p := s10_p4 K (s 0) w) (q := s10_p4_den K s w) (fun s w h => s10_p3_ok K s w @h) (fun i => tr_id) (by kernel_rfl) (by kernel_rfl) @h
/-- the call, from the text -/
theorem c10 (t0 : Value) {K : Value → World → Prop} {w : World} (h : s10_p4 K t0 w) : cl Try.prog 10 #[t0] K w :=
  calls_of_tr (c := (Try.f10.body.getD .skip)) (fn := Try.f10) (q := s10_p4_den K (st0 #[t0]) w) Try.func10 (by kernel_rfl) (by kernel_rfl) (Nat.le_of_ble_eq_true (by kernel_rfl)) (by kernel_rfl) (by kernel_rfl) (s10_p4_ok K (st0 #[t0]) w @h)

/-! ### function 11 : e2e.octetsm.Copy -/
def s11_R (K : Value → World → Prop) (s : Nat → Value) (w : World) : Prop := retv Try.prog s Try.f11.results.toList (fun vs => K (pack vs) w) w
def s11_p1 (K : Value → World → Prop) (t3 : Value) (w : World) : Prop :=
  K t3 w
def s11_p1_den (K : Value → World → Prop) : (Nat → Value) → World → Prop := denL Try.prog [(cd (Try.f11.body.getD .skip) [1, 1, 1, 0]), (cd (Try.f11.body.getD .skip) [1, 1, 1, 1])] (fun _ _ => False) (fun i => (fun _ _ => False)) (s11_R K)
theorem s11_p1_ok (K : Value → World → Prop) (s : Nat → Value) (w : World) (h : s11_p1 K (s 3) w) : Tr (s11_p1_den K s w) :=
  tr_simple (P := Try.prog) (codes := [(cd (Try.f11.body.getD .skip) [1, 1, 1, 0]), (cd (Try.f11.body.getD .skip) [1, 1, 1, 1])]) (N := (fun _ _ => False)) (N' := (fun _ _ => False)) (X := (fun i => (fun _ _ => False))) (X' := (fun i => (fun _ _ => False))) (R := s11_R K) (s := s) (w := w) (p := s11_p1 K (s 3) w) (q := s11_p1_den K s w) tr_id (fun i => tr_id) (by kernel_rfl) (by kernel_rfl) @h
def s11_p2 (K : Value → World → Prop) (B1 : List Value → World → Prop) (t3 t7 t8 t9 : Value) (w : World) : Prop :=
  boI .lss t9 t8 (fun t10 w =>
  ifb t10
  (ixs 1 t7 t9 (fun t11 w =>
  ld1 t11 (fun t12 w =>
  bsq 5 [(.int .u8 0)] 1 [(some (0, 1), t12)] (fun t15 w =>
  apq 5 [(.int .u8 0)] 1 t3 t15 (fun t16 w =>
  boI .add t9 (.int .i64 1) (fun t17 w =>
  B1 [t16, t7, t8, t17] w) w) w) w) w) w)
  (s11_p1 K t3 w)) w
def s11_p2_den (K : Value → World → Prop) (M1 : (Nat → Value) → World → Prop) : (Nat → Value) → World → Prop := denL Try.prog [(cd (Try.f11.body.getD .skip) [1, 1, 0, 1, 0, 0, 0]), (cd (Try.f11.body.getD .skip) [1, 1, 0, 1, 0, 0, 1, 0]), (cd (Try.f11.body.getD .skip) [1, 1, 0, 1, 0, 0, 1, 1, 0]), (cd (Try.f11.body.getD .skip) [1, 1, 0, 1, 0, 0, 1, 1, 1])] M1 (fun i => (bif Nat.beq i 0 then (s11_p1_den K) else (fun _ _ => False))) (s11_R K)
theorem s11_p2_ok (K : Value → World → Prop) (B1 : List Value → World → Prop) (s : Nat → Value) (w : World) (h : s11_p2 K B1 (s 3) (s 7) (s 8) (s 9) w) : Tr (s11_p2_den K (fun s w => B1 [s 3, s 7, s 8, s 9] w) s w) :=
  tr_simple (P := Try.prog) (codes := [(cd (Try.f11.body.getD .skip) [1, 1, 0, 1, 0, 0, 0]), (cd (Try.f11.body.getD .skip) [1, 1, 0, 1, 0, 0, 1, 0]), (cd (Try.f11.body.getD .skip) [1, 1, 0, 1, 0, 0, 1, 1, 0]), (cd (Try.f11.body.getD .skip) [1, 1, 0, 1, 0, 0, 1, 1, 1])]) (N := (fun s w => B1 [s 3, s 7, s 8, s 9] w)) (N' := (fun s w => B1 [s 3, s 7, s 8, s 9] w)) (X := (fun i => (bif Nat.beq i 0 then (fun s w => s11_p1 K (s 3) w) else (fun _ _ => False)))) (X' := (fun i => (bif Nat.beq i 0 then (s11_p1_den K) else (fun _ _ => False)))) (R := s11_R K) (s := s) (w := w) (p := s11_p2 K B1 (s 3) (s 7) (s 8) (s 9) w) (q := s11_p2_den K (fun s w => B1 [s 3, s 7, s 8, s 9] w) s w) tr_id (fun i => (tr_bif (fun s w h => s11_p1_ok K s w @h) tr_id)) (by kernel_rfl) (by kernel_rfl) @h
def s11_p3_F (K : Value → World → Prop) (B1 : List Value → World → Prop) (l : List Value) (w : World) : Prop :=
  match l with
  | [t3, t7, t8, t9] => s11_p2 K B1 t3 t7 t8 t9 w
  | _ => False
theorem s11_p3_Fe {K : Value → World → Prop} {B1 : List Value → World → Prop} {t3 t7 t8 t9 : Value} {w : World} : s11_p3_F K B1 [t3, t7, t8, t9] w = s11_p2 K B1 t3 t7 t8 t9 w := by kernel_rfl
def s11_p3 (K : Value → World → Prop) (t3 t7 t8 t9 : Value) (w : World) : Prop :=
  LoopL (s11_p3_F K) [t3, t7, t8, t9] w
def s11_p3_den (K : Value → World → Prop) : (Nat → Value) → World → Prop := fun s w => LoopP (fun M1 s w => s11_p2_den K M1 s w) s w
theorem s11_p3_ok (K : Value → World → Prop) (s : Nat → Value) (w : World) (h : s11_p3 K (s 3) (s 7) (s 8) (s 9) w) : Tr (s11_p3_den K s w) :=
  tr_loop (G := fun N' s w => s11_p2_den K N' s w) (F := s11_p3_F K) (sel := fun s => [s 3, s 7, s 8, s 9]) (s := s) (w := w) (p := s11_p3 K (s 3) (s 7) (s 8) (s 9) w) (q := s11_p3_den K s w) (fun B s w h => s11_p2_ok K B s w @h) (by kernel_rfl) (by kernel_rfl) @h
def s11_p4 (K : Value → World → Prop) (t0 : Value) (w : World) : Prop :=
  bsq 5 [(.int .u8 0)] 0 [] (fun t6 w =>
  lnS t0 (fun t8 w =>
  s11_p3 K t6 t0 t8 (.int .i64 0) w) w) w
def s11_p4_den (K : Value → World → Prop) : (Nat → Value) → World → Prop := denL Try.prog [(cd (Try.f11.body.getD .skip) [0]), (cd (Try.f11.body.getD .skip) [1, 0]), (cd (Try.f11.body.getD .skip) [1, 1, 0, 0])] (s11_p3_den K) (fun i => (fun _ _ => False)) (s11_R K)
theorem s11_p4_ok (K : Value → World → Prop) (s : Nat → Value) (w : World) (h : s11_p4 K (s 0) w) : Tr (s11_p4_den K s w) :=
  tr_simple (P := Try.prog) (codes := [(cd (Try.f11.body.getD .skip) [0]), (cd (Try.f11.body.getD .skip) [1, 0]), (cd (Try.f11.body.getD .skip) [1, 1, 0, 0])]) (N := (fun s w => s11_p3 K (s 3) (s 7) (s 8) (s 9) w)) (N' := (s11_p3_den K)) (X := (fun i => (fun _ _ => False))) (X' := (fun i => (fun _ _ => False))) (R := s11_R K) (s := s) (w := w) (p := s11_p4 K (s 0) w) (q := s11_p4_den K s w) (fun s w h => s11_p3_ok K s w @h) (fun i => tr_id) (by kernel_rfl) (by kernel_rfl) @h
/-- the call, from the text -/
theorem c11 (t0 : Value) {K : Value → World → Prop} {w : World} (h : s11_p4 K t0 w) : cl Try.prog 11 #[t0] K w :=
  calls_of_tr (c := (Try.f11.body.getD .skip)) (fn := Try.f11) (q := s11_p4_den K (st0 #[t0]) w) Try.func11 (by kernel_rfl) (by kernel_rfl) (Nat.le_of_ble_eq_true (by kernel_rfl)) (by kernel_rfl) (by kernel_rfl) (s11_p4_ok K (st0 #[t0]) w @h)

/-! ### function 12 : e2e.octetslaw.sameOut -/
def s12_R (K : Value → World → Prop) (s : Nat → Value) (w : World) : Prop := retv Try.prog s Try.f12.results.toList (fun vs => K (pack vs) w) w
def s12_p1 (K : Value → World → Prop) (t0 t1 : Value) (w : World) : Prop :=
  nw 38 (t0).cells (fun t2 w =>
  nw 38 (t1).cells (fun t3 w =>
  fd 0 t2 (fun t5 w =>
  ld1 t5 (fun t6 w =>
  fd 0 t3 (fun t7 w =>
  ld1 t7 (fun t8 w =>
  boB .eql t6 t8 (fun t9 w =>
  gd t9 true (fd 1 t2) (fun t11 w =>
  gd t9 true (ld1 t11) (fun t12 w =>
  gd t9 true (fd 1 t3) (fun t13 w =>
  gd t9 true (ld1 t13) (fun t14 w =>
  gd t9 true (boI .eql t12 t14) (fun t15 w =>
  pk t9 t15 (.bool false) (fun t16 w =>
  gd t16 true (fd 2 t2) (fun t18 w =>
  gd t16 true (ld1 t18) (fun t19 w =>
  gd t16 true (fd 2 t3) (fun t20 w =>
  gd t16 true (ld1 t20) (fun t21 w =>
  gd t16 true (cl Try.prog 18 #[t19, t21]) (fun t22 w =>
  pk t16 t22 (.bool false) (fun t23 w =>
  K t23 w) w) w) w) w) w) w) w) w) w) w) w) w) w) w) w) w) w) w) w
def s12_p1_den (K : Value → World → Prop) : (Nat → Value) → World → Prop := denL Try.prog [(cd (Try.f12.body.getD .skip) [0]), (cd (Try.f12.body.getD .skip) [1, 0]), (cd (Try.f12.body.getD .skip) [1, 1])] (fun _ _ => False) (fun i => (fun _ _ => False)) (s12_R K)
theorem s12_p1_ok (K : Value → World → Prop) (s : Nat → Value) (w : World) (h : s12_p1 K (s 0) (s 1) w) : Tr (s12_p1_den K s w) :=
  tr_simple (P := Try.prog) (codes := [(cd (Try.f12.body.getD .skip) [0]), (cd (Try.f12.body.getD .skip) [1, 0]), (cd (Try.f12.body.getD .skip) [1, 1])]) (N := (fun _ _ => False)) (N' := (fun _ _ => False)) (X := (fun i => (fun _ _ => False))) (X' := (fun i => (fun _ _ => False))) (R := s12_R K) (s := s) (w := w) (p := s12_p1 K (s 0) (s 1) w) (q := s12_p1_den K s w) tr_id (fun i => tr_id) (by kernel_rfl) (by kernel_rfl) @h
/-- the call, from the text -/
theorem c12 (t0 t1 : Value) {K : Value → World → Prop} {w : World} (h : s12_p1 K t0 t1 w) : cl Try.prog 12 #[t0, t1] K w :=
  calls_of_tr (c := (Try.f12.body.getD .skip)) (fn := Try.f12) (q := s12_p1_den K (st0 #[t0, t1]) w) Try.func12 (by kernel_rfl) (by kernel_rfl) (Nat.le_of_ble_eq_true (by kernel_rfl)) (by kernel_rfl) (by kernel_rfl) (s12_p1_ok K (st0 #[t0, t1]) w @h)

/-! ### function 13 : (*e2e.octetslaw.machine).step -/
def s13_R (K : Value → World → Prop) (s : Nat → Value) (w : World) : Prop := retv Try.prog s Try.f13.results.toList (fun vs => K (pack vs) w) w
def s13_p1 (K : Value → World → Prop) (t4 : Value) (w : World) : Prop :=
  bdq [(.bool false), (.int .u64 0), (.slice none 0 0)] [] (fun t265 w =>
  stn 3 t4 t265 (fun w =>
  ldn 3 t4 (fun r0 _ =>
  K r0 w) w) w) w
def s13_p1_den (K : Value → World → Prop) : (Nat → Value) → World → Prop := denL Try.prog [(cd (Try.f13.body.getD .skip) [1, 1, 0]), (cd (Try.f13.body.getD .skip) [1, 1, 1])] (fun _ _ => False) (fun i => (fun _ _ => False)) (s13_R K)
theorem s13_p1_ok (K : Value → World → Prop) (s : Nat → Value) (w : World) (h : s13_p1 K (s 4) w) : Tr (s13_p1_den K s w) :=
  tr_simple (P := Try.prog) (codes := [(cd (Try.f13.body.getD .skip) [1, 1, 0]), (cd (Try.f13.body.getD .skip) [1, 1, 1])]) (N := (fun _ _ => False)) (N' := (fun _ _ => False)) (X := (fun i => (fun _ _ => False))) (X' := (fun i => (fun _ _ => False))) (R := s13_R K) (s := s) (w := w) (p := s13_p1 K (s 4) w) (q := s13_p1_den K s w) tr_id (fun i => tr_id) (by kernel_rfl) (by kernel_rfl) @h
def s13_p2 (K : Value → World → Prop) (t0 t3 t4 : Value) (w : World) : Prop :=
  fd 5 t3 (fun t15 w =>
  ld1 t15 (fun t16 w =>
  cl Try.prog 32 #[t16] (fun t17 w =>
  nck t0 (fun t18 w =>
  fd 0 t18 (fun t19 w =>
  st1 t19 t17 (fun w =>
  bdq [(.bool false), (.int .u64 0), (.slice none 0 0)] [(some (0, 1), (.bool true))] (fun t20 w =>
  stn 3 t4 t20 (fun w =>
  ldn 3 t4 (fun r0 _ =>
  K r0 w) w) w) w) w) w) w) w) w) w
def s13_p2_den (K : Value → World → Prop) : (Nat → Value) → World → Prop := denL Try.prog [(cd (Try.f13.body.getD .skip) [1, 0, 1, 0, 1, 0, 0]), (cd (Try.f13.body.getD .skip) [1, 0, 1, 0, 1, 0, 1, 0]), (cd (Try.f13.body.getD .skip) [1, 0, 1, 0, 1, 0, 1, 1])] (fun _ _ => False) (fun i => (bif Nat.beq i 0 then (s13_p1_den K) else (fun _ _ => False))) (s13_R K)
theorem s13_p2_ok (K : Value → World → Prop) (s : Nat → Value) (w : World) (h : s13_p2 K (s 0) (s 3) (s 4) w) : Tr (s13_p2_den K s w) :=
  tr_simple (P := Try.prog) (codes := [(cd (Try.f13.body.getD .skip) [1, 0, 1, 0, 1, 0, 0]), (cd (Try.f13.body.getD .skip) [1, 0, 1, 0, 1, 0, 1, 0]), (cd (Try.f13.body.getD .skip) [1, 0, 1, 0, 1, 0, 1, 1])]) (N := (fun _ _ => False)) (N' := (fun _ _ => False)) (X := (fun i => (bif Nat.beq i 0 then (fun s w => s13_p1 K (s 4) w) else (fun _ _ => False)))) (X' := (fun i => (bif Nat.beq i 0 then (s13_p1_den K) else (fun _ _ => False)))) (R := s13_R K) (s := s) (w := w) (p := s13_p2 K (s 0) (s 3) (s 4) w) (q := s13_p2_den K s w) tr_id (fun i => (tr_bif (fun s w h => s13_p1_ok K s w @h) tr_id)) (by kernel_rfl) (by kernel_rfl) @h
def s13_p3 (K : Value → World → Prop) (t4 : Value) (w : World) : Prop :=
  ldn 3 t4 (fun r0 _ =>
  K r0 w) w
def s13_p3_den (K : Value → World → Prop) : (Nat → Value) → World → Prop := denL Try.prog [(cd (Try.f13.body.getD .skip) [1, 0, 1, 0, 1, 1, 1, 0, 1, 1])] (fun _ _ => False) (fun i => (bif Nat.beq i 0 then (s13_p1_den K) else (fun _ _ => False))) (s13_R K)
theorem s13_p3_ok (K : Value → World → Prop) (s : Nat → Value) (w : World) (h : s13_p3 K (s 4) w) : Tr (s13_p3_den K s w) :=
  tr_simple (P := Try.prog) (codes := [(cd (Try.f13.body.getD .skip) [1, 0, 1, 0, 1, 1, 1, 0, 1, 1])]) (N := (fun _ _ => False)) (N' := (fun _ _ => False)) (X := (fun i => (bif Nat.beq i 0 then (fun s w => s13_p1 K (s 4) w) else (fun _ _ => False)))) (X' := (fun i => (bif Nat.beq i 0 then (s13_p1_den K) else (fun _ _ => False)))) (R := s13_R K) (s := s) (w := w) (p := s13_p3 K (s 4) w) (q := s13_p3_den K s w) tr_id (fun i => (tr_bif (fun s w h => s13_p1_ok K s w @h) tr_id)) (by kernel_rfl) (by kernel_rfl) @h
def s13_p4_d (K : Value → World → Prop) (t0 t3 t4 : Value) (w0 w : World) : Prop :=
  nck t0 (fun t42 _ =>
  fd 0 t42 (fun t43 _ =>
  ld1 t43 (fun t44 _ =>
  fd 3 t3 (fun t45 _ =>
  ld1 t45 (fun t46 _ =>
  sls 1 t44 (some t46) none (fun t47 _ =>
  fd 1 t3 (fun t48 _ =>
  ld1 t48 (fun t49 _ =>
  fd 2 t3 (fun t50 _ =>
  ld1 t50 (fun t51 _ =>
  cl Try.prog 35 #[t47, t49, t51] (fun t52 w =>
  bdq [(.bool false), (.int .u64 0), (.slice none 0 0)] [(some (0, 1), (.bool true)), (some (1, 1), t52)] (fun t53 w =>
  stn 3 t4 t53 (fun w =>
  s13_p3 K t4 w) w) w) w) w0) w0) w0) w0) w0) w0) w0) w0) w0) w0
def s13_p4 (K : Value → World → Prop) (t0 t3 t4 : Value) (w : World) : Prop := s13_p4_d K t0 t3 t4 (drw w) (drw w)
def s13_p4_den (K : Value → World → Prop) : (Nat → Value) → World → Prop := denL Try.prog [(cd (Try.f13.body.getD .skip) [1, 0, 1, 0, 1, 1, 1, 0, 1, 0])] (s13_p3_den K) (fun i => (bif Nat.beq i 0 then (s13_p1_den K) else (fun _ _ => False))) (s13_R K)
theorem s13_p4_ok (K : Value → World → Prop) (s : Nat → Value) (w : World) (h : s13_p4 K (s 0) (s 3) (s 4) w) : Tr (s13_p4_den K s w) :=
  tr_draw (P := Try.prog) (ops := (ro (cd (Try.f13.body.getD .skip) [1, 0, 1, 0, 1, 1, 1, 0, 1, 0]))) (ms := [0, 1, 3, 7, 0, 16, 63, 0, 128, 0, 512, 2047, 4095, 8191]) (cs := [0, 1, 2, 3, 4, 5, 6, 7, 8, 9, 10]) (N := (fun s w => s13_p3 K (s 4) w)) (N' := (s13_p3_den K)) (s := s) (w := w) (p := s13_p4 K (s 0) (s 3) (s 4) w) (q := s13_p4_den K s w) (by kernel_rfl) (by kernel_rfl) (fun s w h => s13_p3_ok K s w @h) (by kernel_rfl) (by kernel_rfl) @h
def s13_p5 (K : Value → World → Prop) (t0 t3 t4 t39 : Value) (w : World) : Prop :=
  ifb t39
  (bdq [(.bool false), (.int .u64 0), (.slice none 0 0)] [] (fun t40 w =>
  stn 3 t4 t40 (fun w =>
  ldn 3 t4 (fun r0 _ =>
  K r0 w) w) w) w)
  (s13_p4 K t0 t3 t4 w)
def s13_p5_den (K : Value → World → Prop) : (Nat → Value) → World → Prop := denL Try.prog [(cd (Try.f13.body.getD .skip) [1, 0, 1, 0, 1, 1, 1, 0, 0, 1])] (s13_p4_den K) (fun i => (bif Nat.beq i 0 then (s13_p1_den K) else (fun _ _ => False))) (s13_R K)
theorem s13_p5_ok (K : Value → World → Prop) (s : Nat → Value) (w : World) (h : s13_p5 K (s 0) (s 3) (s 4) (s 39) w) : Tr (s13_p5_den K s w) :=
  tr_simple (P := Try.prog) (codes := [(cd (Try.f13.body.getD .skip) [1, 0, 1, 0, 1, 1, 1, 0, 0, 1])]) (N := (fun s w => s13_p4 K (s 0) (s 3) (s 4) w)) (N' := (s13_p4_den K)) (X := (fun i => (bif Nat.beq i 0 then (fun s w => s13_p1 K (s 4) w) else (fun _ _ => False)))) (X' := (fun i => (bif Nat.beq i 0 then (s13_p1_den K) else (fun _ _ => False)))) (R := s13_R K) (s := s) (w := w) (p := s13_p5 K (s 0) (s 3) (s 4) (s 39) w) (q := s13_p5_den K s w) (fun s w h => s13_p4_ok K s w @h) (fun i => (tr_bif (fun s w h => s13_p1_ok K s w @h) tr_id)) (by kernel_rfl) (by kernel_rfl) @h
def s13_p6_d (K : Value → World → Prop) (J : World → Prop) (t0 t3 t4 : Value) (w0 w : World) : Prop :=
  fd 1 t3 (fun t23 _ =>
  Go.Sh.V.qj J (ld1 t23) (fun t24 =>
  Go.Sh.V.qj J (cl Try.prog 33 #[t24]) (fun t25 =>
  un .not t25 (fun t26 _ =>
  gd t26 false (fun K w => K t0 w) (fun t28 _ =>
  gd t26 false (nck t28) (fun t29 _ =>
  gd t26 false (fd 0 t29) (fun t30 _ =>
  Go.Sh.V.qj J (gd t26 false (ld1 t30)) (fun t31 =>
  gd t26 false (lnS t31) (fun t32 _ =>
  gd t26 false (fd 3 t3) (fun t33 _ =>
  Go.Sh.V.qj J (gd t26 false (ld1 t33)) (fun t34 =>
  gd t26 false (fd 1 t3) (fun t35 _ =>
  Go.Sh.V.qj J (gd t26 false (ld1 t35)) (fun t36 =>
  Go.Sh.V.qj J (gd t26 false (cl Try.prog 34 #[t32, t34, t36])) (fun t37 =>
  gd t26 false (un .not t37) (fun t38 _ =>
  pk t26 (.bool true) t38 (fun t39 _ =>
  ∀ w, J w →
  s13_p5 K t0 t3 t4 t39 w) w0) w0))) w0)) w0) w0)) w0) w0) w0) w0))) w0
def s13_p6 (K : Value → World → Prop) (t0 t3 t4 : Value) (w : World) : Prop := ∃ J : World → Prop, J (drw w) ∧ s13_p6_d K J t0 t3 t4 (drw w) (drw w)
def s13_p6_den (K : Value → World → Prop) : (Nat → Value) → World → Prop := denL Try.prog [(cd (Try.f13.body.getD .skip) [1, 0, 1, 0, 1, 1, 1, 0, 0, 0])] (s13_p5_den K) (fun i => (bif Nat.beq i 0 then (s13_p1_den K) else (fun _ _ => False))) (s13_R K)
theorem s13_p6_ok (K : Value → World → Prop) (s : Nat → Value) (w : World) (h : s13_p6 K (s 0) (s 3) (s 4) w) : Tr (s13_p6_den K s w) :=
  Go.Sh.V.tr_drawV (P := Try.prog) (ops := (ro (cd (Try.f13.body.getD .skip) [1, 0, 1, 0, 1, 1, 1, 0, 0, 0]))) (cs := [0, 1, 2, 3, 4, 5, 6, 7, 8, 9, 10, 11, 12, 13, 14, 15, 16]) (N := (fun s w => s13_p5 K (s 0) (s 3) (s 4) (s 39) w)) (N' := (s13_p5_den K)) (s := s) (w := w) (p := fun J => s13_p6_d K J (s 0) (s 3) (s 4) (drw w) (drw w)) (q := s13_p6_den K s w) (by kernel_rfl) (by kernel_rfl) (fun s w h => s13_p5_ok K s w @h) (by kernel_rfl) (by kernel_rfl) @h
def s13_p7 (K : Value → World → Prop) (t4 : Value) (w : World) : Prop :=
  bdq [(.bool false), (.int .u64 0), (.slice none 0 0)] [(some (0, 1), (.bool true))] (fun t88 w =>
  stn 3 t4 t88 (fun w =>
  ldn 3 t4 (fun r0 _ =>
  K r0 w) w) w) w
def s13_p7_den (K : Value → World → Prop) : (Nat → Value) → World → Prop := denL Try.prog [(cd (Try.f13.body.getD .skip) [1, 0, 1, 0, 1, 1, 1, 1, 1, 0, 1, 1, 0]), (cd (Try.f13.body.getD .skip) [1, 0, 1, 0, 1, 1, 1, 1, 1, 0, 1, 1, 1])] (fun _ _ => False) (fun i => (bif Nat.beq i 0 then (s13_p1_den K) else (fun _ _ => False))) (s13_R K)
theorem s13_p7_ok (K : Value → World → Prop) (s : Nat → Value) (w : World) (h : s13_p7 K (s 4) w) : Tr (s13_p7_den K s w) :=
  tr_simple (P := Try.prog) (codes := [(cd (Try.f13.body.getD .skip) [1, 0, 1, 0, 1, 1, 1, 1, 1, 0, 1, 1, 0]), (cd (Try.f13.body.getD .skip) [1, 0, 1, 0, 1, 1, 1, 1, 1, 0, 1, 1, 1])]) (N := (fun _ _ => False)) (N' := (fun _ _ => False)) (X := (fun i => (bif Nat.beq i 0 then (fun s w => s13_p1 K (s 4) w) else (fun _ _ => False)))) (X' := (fun i => (bif Nat.beq i 0 then (s13_p1_den K) else (fun _ _ => False)))) (R := s13_R K) (s := s) (w := w) (p := s13_p7 K (s 4) w) (q := s13_p7_den K s w) tr_id (fun i => (tr_bif (fun s w h => s13_p1_ok K s w @h) tr_id)) (by kernel_rfl) (by kernel_rfl) @h
def s13_p8_d (K : Value → World → Prop) (t0 t3 t4 : Value) (w0 w : World) : Prop :=
  nck t0 (fun t75 _ =>
  fd 0 t75 (fun t76 _ =>
  ld1 t76 (fun t77 _ =>
  fd 3 t3 (fun t78 _ =>
  ld1 t78 (fun t79 _ =>
  sls 1 t77 (some t79) none (fun t80 _ =>
  fd 1 t3 (fun t81 _ =>
  ld1 t81 (fun t82 _ =>
  fd 2 t3 (fun t83 _ =>
  ld1 t83 (fun t84 _ =>
  fd 4 t3 (fun t85 _ =>
  ld1 t85 (fun t86 _ =>
  cl Try.prog 36 #[t80, t82, t84, t86] (fun t87 w =>
  s13_p7 K t4 w) w) w0) w0) w0) w0) w0) w0) w0) w0) w0) w0) w0) w0
def s13_p8 (K : Value → World → Prop) (t0 t3 t4 : Value) (w : World) : Prop := s13_p8_d K t0 t3 t4 (drw w) (drw w)
def s13_p8_den (K : Value → World → Prop) : (Nat → Value) → World → Prop := denL Try.prog [(cd (Try.f13.body.getD .skip) [1, 0, 1, 0, 1, 1, 1, 1, 1, 0, 1, 0])] (s13_p7_den K) (fun i => (bif Nat.beq i 0 then (s13_p1_den K) else (fun _ _ => False))) (s13_R K)
theorem s13_p8_ok (K : Value → World → Prop) (s : Nat → Value) (w : World) (h : s13_p8 K (s 0) (s 3) (s 4) w) : Tr (s13_p8_den K s w) :=
  tr_draw (P := Try.prog) (ops := (ro (cd (Try.f13.body.getD .skip) [1, 0, 1, 0, 1, 1, 1, 1, 1, 0, 1, 0]))) (ms := [0, 1, 3, 7, 0, 16, 63, 0, 128, 0, 512, 0, 2048, 8191]) (cs := [0, 1, 2, 3, 4, 5, 6, 7, 8, 9, 10, 11, 12]) (N := (fun s w => s13_p7 K (s 4) w)) (N' := (s13_p7_den K)) (s := s) (w := w) (p := s13_p8 K (s 0) (s 3) (s 4) w) (q := s13_p8_den K s w) (by kernel_rfl) (by kernel_rfl) (fun s w h => s13_p7_ok K s w @h) (by kernel_rfl) (by kernel_rfl) @h
def s13_p9 (K : Value → World → Prop) (t0 t3 t4 t72 : Value) (w : World) : Prop :=
  ifb t72
  (bdq [(.bool false), (.int .u64 0), (.slice none 0 0)] [] (fun t73 w =>
  stn 3 t4 t73 (fun w =>
  ldn 3 t4 (fun r0 _ =>
  K r0 w) w) w) w)
  (s13_p8 K t0 t3 t4 w)
def s13_p9_den (K : Value → World → Prop) : (Nat → Value) → World → Prop := denL Try.prog [(cd (Try.f13.body.getD .skip) [1, 0, 1, 0, 1, 1, 1, 1, 1, 0, 0, 1])] (s13_p8_den K) (fun i => (bif Nat.beq i 0 then (s13_p1_den K) else (fun _ _ => False))) (s13_R K)
theorem s13_p9_ok (K : Value → World → Prop) (s : Nat → Value) (w : World) (h : s13_p9 K (s 0) (s 3) (s 4) (s 72) w) : Tr (s13_p9_den K s w) :=
  tr_simple (P := Try.prog) (codes := [(cd (Try.f13.body.getD .skip) [1, 0, 1, 0, 1, 1, 1, 1, 1, 0, 0, 1])]) (N := (fun s w => s13_p8 K (s 0) (s 3) (s 4) w)) (N' := (s13_p8_den K)) (X := (fun i => (bif Nat.beq i 0 then (fun s w => s13_p1 K (s 4) w) else (fun _ _ => False)))) (X' := (fun i => (bif Nat.beq i 0 then (s13_p1_den K) else (fun _ _ => False)))) (R := s13_R K) (s := s) (w := w) (p := s13_p9 K (s 0) (s 3) (s 4) (s 72) w) (q := s13_p9_den K s w) (fun s w h => s13_p8_ok K s w @h) (fun i => (tr_bif (fun s w h => s13_p1_ok K s w @h) tr_id)) (by kernel_rfl) (by kernel_rfl) @h
def s13_p10_d (K : Value → World → Prop) (J : World → Prop) (t0 t3 t4 : Value) (w0 w : World) : Prop :=
  fd 1 t3 (fun t56 _ =>
  Go.Sh.V.qj J (ld1 t56) (fun t57 =>
  Go.Sh.V.qj J (cl Try.prog 33 #[t57]) (fun t58 =>
  un .not t58 (fun t59 _ =>
  gd t59 false (fun K w => K t0 w) (fun t61 _ =>
  gd t59 false (nck t61) (fun t62 _ =>
  gd t59 false (fd 0 t62) (fun t63 _ =>
  Go.Sh.V.qj J (gd t59 false (ld1 t63)) (fun t64 =>
  gd t59 false (lnS t64) (fun t65 _ =>
  gd t59 false (fd 3 t3) (fun t66 _ =>
  Go.Sh.V.qj J (gd t59 false (ld1 t66)) (fun t67 =>
  gd t59 false (fd 1 t3) (fun t68 _ =>
  Go.Sh.V.qj J (gd t59 false (ld1 t68)) (fun t69 =>
  Go.Sh.V.qj J (gd t59 false (cl Try.prog 34 #[t65, t67, t69])) (fun t70 =>
  gd t59 false (un .not t70) (fun t71 _ =>
  pk t59 (.bool true) t71 (fun t72 _ =>
  ∀ w, J w →
  s13_p9 K t0 t3 t4 t72 w) w0) w0))) w0)) w0) w0)) w0) w0) w0) w0))) w0
def s13_p10 (K : Value → World → Prop) (t0 t3 t4 : Value) (w : World) : Prop := ∃ J : World → Prop, J (drw w) ∧ s13_p10_d K J t0 t3 t4 (drw w) (drw w)
def s13_p10_den (K : Value → World → Prop) : (Nat → Value) → World → Prop := denL Try.prog [(cd (Try.f13.body.getD .skip) [1, 0, 1, 0, 1, 1, 1, 1, 1, 0, 0, 0])] (s13_p9_den K) (fun i => (bif Nat.beq i 0 then (s13_p1_den K) else (fun _ _ => False))) (s13_R K)
theorem s13_p10_ok (K : Value → World → Prop) (s : Nat → Value) (w : World) (h : s13_p10 K (s 0) (s 3) (s 4) w) : Tr (s13_p10_den K s w) :=
  Go.Sh.V.tr_drawV (P := Try.prog) (ops := (ro (cd (Try.f13.body.getD .skip) [1, 0, 1, 0, 1, 1, 1, 1, 1, 0, 0, 0]))) (cs := [0, 1, 2, 3, 4, 5, 6, 7, 8, 9, 10, 11, 12, 13, 14, 15, 16]) (N := (fun s w => s13_p9 K (s 0) (s 3) (s 4) (s 72) w)) (N' := (s13_p9_den K)) (s := s) (w := w) (p := fun J => s13_p10_d K J (s 0) (s 3) (s 4) (drw w) (drw w)) (q := s13_p10_den K s w) (by kernel_rfl) (by kernel_rfl) (fun s w h => s13_p9_ok K s w @h) (by kernel_rfl) (by kernel_rfl) @h
def s13_p11 (K : Value → World → Prop) (t4 : Value) (w : World) : Prop :=
  bdq [(.bool false), (.int .u64 0), (.slice none 0 0)] [(some (0, 1), (.bool true))] (fun t110 w =>
  stn 3 t4 t110 (fun w =>
  ldn 3 t4 (fun r0 _ =>
  K r0 w) w) w) w
def s13_p11_den (K : Value → World → Prop) : (Nat → Value) → World → Prop := denL Try.prog [(cd (Try.f13.body.getD .skip) [1, 0, 1, 0, 1, 1, 1, 1, 1, 1, 1, 0, 1, 1, 0]), (cd (Try.f13.body.getD .skip) [1, 0, 1, 0, 1, 1, 1, 1, 1, 1, 1, 0, 1, 1, 1])] (fun _ _ => False) (fun i => (bif Nat.beq i 0 then (s13_p1_den K) else (fun _ _ => False))) (s13_R K)
theorem s13_p11_ok (K : Value → World → Prop) (s : Nat → Value) (w : World) (h : s13_p11 K (s 4) w) : Tr (s13_p11_den K s w) :=
  tr_simple (P := Try.prog) (codes := [(cd (Try.f13.body.getD .skip) [1, 0, 1, 0, 1, 1, 1, 1, 1, 1, 1, 0, 1, 1, 0]), (cd (Try.f13.body.getD .skip) [1, 0, 1, 0, 1, 1, 1, 1, 1, 1, 1, 0, 1, 1, 1])]) (N := (fun _ _ => False)) (N' := (fun _ _ => False)) (X := (fun i => (bif Nat.beq i 0 then (fun s w => s13_p1 K (s 4) w) else (fun _ _ => False)))) (X' := (fun i => (bif Nat.beq i 0 then (s13_p1_den K) else (fun _ _ => False)))) (R := s13_R K) (s := s) (w := w) (p := s13_p11 K (s 4) w) (q := s13_p11_den K s w) tr_id (fun i => (tr_bif (fun s w h => s13_p1_ok K s w @h) tr_id)) (by kernel_rfl) (by kernel_rfl) @h
def s13_p12_d (K : Value → World → Prop) (t0 t3 t4 : Value) (w0 w : World) : Prop :=
  nck t0 (fun t98 _ =>
  fd 0 t98 (fun t99 _ =>
  ld1 t99 (fun t100 _ =>
  fd 1 t3 (fun t101 _ =>
  ld1 t101 (fun t102 _ =>
  fd 2 t3 (fun t103 _ =>
  ld1 t103 (fun t104 _ =>
  fd 4 t3 (fun t105 _ =>
  ld1 t105 (fun t106 _ =>
  nck t0 (fun t108 _ =>
  fd 0 t108 (fun t109 _ =>
  cl Try.prog 37 #[t100, t102, t104, t106] (fun t107 w =>
  st1 t109 t107 (fun w =>
  s13_p11 K t4 w) w) w) w0) w0) w0) w0) w0) w0) w0) w0) w0) w0) w0
def s13_p12 (K : Value → World → Prop) (t0 t3 t4 : Value) (w : World) : Prop := s13_p12_d K t0 t3 t4 (drw w) (drw w)
def s13_p12_den (K : Value → World → Prop) : (Nat → Value) → World → Prop := denL Try.prog [(cd (Try.f13.body.getD .skip) [1, 0, 1, 0, 1, 1, 1, 1, 1, 1, 1, 0, 1, 0])] (s13_p11_den K) (fun i => (bif Nat.beq i 0 then (s13_p1_den K) else (fun _ _ => False))) (s13_R K)
theorem s13_p12_ok (K : Value → World → Prop) (s : Nat → Value) (w : World) (h : s13_p12 K (s 0) (s 3) (s 4) w) : Tr (s13_p12_den K s w) :=
  tr_draw (P := Try.prog) (ops := (ro (cd (Try.f13.body.getD .skip) [1, 0, 1, 0, 1, 1, 1, 1, 1, 1, 1, 0, 1, 0]))) (ms := [0, 0, 2, 6, 14, 0, 32, 0, 128, 0, 512, 2046, 4095, 8191, 16383]) (cs := [0, 1, 2, 3, 4, 5, 6, 7, 8, 9, 10, 12, 13]) (N := (fun s w => s13_p11 K (s 4) w)) (N' := (s13_p11_den K)) (s := s) (w := w) (p := s13_p12 K (s 0) (s 3) (s 4) w) (q := s13_p12_den K s w) (by kernel_rfl) (by kernel_rfl) (fun s w h => s13_p11_ok K s w @h) (by kernel_rfl) (by kernel_rfl) @h
def s13_p13 (K : Value → World → Prop) (t0 t3 t4 : Value) (w : World) : Prop :=
  fd 1 t3 (fun t91 w =>
  ld1 t91 (fun t92 w =>
  cl Try.prog 33 #[t92] (fun t93 w =>
  un .not t93 (fun t94 w =>
  ifb t94
  (bdq [(.bool false), (.int .u64 0), (.slice none 0 0)] [] (fun t95 w =>
  stn 3 t4 t95 (fun w =>
  ldn 3 t4 (fun r0 _ =>
  K r0 w) w) w) w)
  (s13_p12 K t0 t3 t4 w)) w) w) w) w
def s13_p13_den (K : Value → World → Prop) : (Nat → Value) → World → Prop := denL Try.prog [(cd (Try.f13.body.getD .skip) [1, 0, 1, 0, 1, 1, 1, 1, 1, 1, 1, 0, 0, 0]), (cd (Try.f13.body.getD .skip) [1, 0, 1, 0, 1, 1, 1, 1, 1, 1, 1, 0, 0, 1])] (s13_p12_den K) (fun i => (bif Nat.beq i 0 then (s13_p1_den K) else (fun _ _ => False))) (s13_R K)
theorem s13_p13_ok (K : Value → World → Prop) (s : Nat → Value) (w : World) (h : s13_p13 K (s 0) (s 3) (s 4) w) : Tr (s13_p13_den K s w) :=
  tr_simple (P := Try.prog) (codes := [(cd (Try.f13.body.getD .skip) [1, 0, 1, 0, 1, 1, 1, 1, 1, 1, 1, 0, 0, 0]), (cd (Try.f13.body.getD .skip) [1, 0, 1, 0, 1, 1, 1, 1, 1, 1, 1, 0, 0, 1])]) (N := (fun s w => s13_p12 K (s 0) (s 3) (s 4) w)) (N' := (s13_p12_den K)) (X := (fun i => (bif Nat.beq i 0 then (fun s w => s13_p1 K (s 4) w) else (fun _ _ => False)))) (X' := (fun i => (bif Nat.beq i 0 then (s13_p1_den K) else (fun _ _ => False)))) (R := s13_R K) (s := s) (w := w) (p := s13_p13 K (s 0) (s 3) (s 4) w) (q := s13_p13_den K s w) (fun s w h => s13_p12_ok K s w @h) (fun i => (tr_bif (fun s w h => s13_p1_ok K s w @h) tr_id)) (by kernel_rfl) (by kernel_rfl) @h
def s13_p14 (K : Value → World → Prop) (t4 : Value) (w : World) : Prop :=
  bdq [(.bool false), (.int .u64 0), (.slice none 0 0)] [(some (0, 1), (.bool true))] (fun t120 w =>
  stn 3 t4 t120 (fun w =>
  ldn 3 t4 (fun r0 _ =>
  K r0 w) w) w) w
def s13_p14_den (K : Value → World → Prop) : (Nat → Value) → World → Prop := denL Try.prog [(cd (Try.f13.body.getD .skip) [1, 0, 1, 0, 1, 1, 1, 1, 1, 1, 1, 1, 1, 0, 1, 0]), (cd (Try.f13.body.getD .skip) [1, 0, 1, 0, 1, 1, 1, 1, 1, 1, 1, 1, 1, 0, 1, 1])] (fun _ _ => False) (fun i => (bif Nat.beq i 0 then (s13_p1_den K) else (fun _ _ => False))) (s13_R K)
theorem s13_p14_ok (K : Value → World → Prop) (s : Nat → Value) (w : World) (h : s13_p14 K (s 4) w) : Tr (s13_p14_den K s w) :=
  tr_simple (P := Try.prog) (codes := [(cd (Try.f13.body.getD .skip) [1, 0, 1, 0, 1, 1, 1, 1, 1, 1, 1, 1, 1, 0, 1, 0]), (cd (Try.f13.body.getD .skip) [1, 0, 1, 0, 1, 1, 1, 1, 1, 1, 1, 1, 1, 0, 1, 1])]) (N := (fun _ _ => False)) (N' := (fun _ _ => False)) (X := (fun i => (bif Nat.beq i 0 then (fun s w => s13_p1 K (s 4) w) else (fun _ _ => False)))) (X' := (fun i => (bif Nat.beq i 0 then (s13_p1_den K) else (fun _ _ => False)))) (R := s13_R K) (s := s) (w := w) (p := s13_p14 K (s 4) w) (q := s13_p14_den K s w) tr_id (fun i => (tr_bif (fun s w h => s13_p1_ok K s w @h) tr_id)) (by kernel_rfl) (by kernel_rfl) @h
def s13_p15_d (K : Value → World → Prop) (t0 t3 t4 : Value) (w0 w : World) : Prop :=
  nck t0 (fun t114 _ =>
  fd 0 t114 (fun t115 _ =>
  ld1 t115 (fun t116 _ =>
  fd 3 t3 (fun t117 _ =>
  ld1 t117 (fun t118 _ =>
  cl Try.prog 38 #[t116, t118] (fun t119 w =>
  s13_p14 K t4 w) w) w0) w0) w0) w0) w0
def s13_p15 (K : Value → World → Prop) (t0 t3 t4 : Value) (w : World) : Prop := s13_p15_d K t0 t3 t4 (drw w) (drw w)
def s13_p15_den (K : Value → World → Prop) : (Nat → Value) → World → Prop := denL Try.prog [(cd (Try.f13.body.getD .skip) [1, 0, 1, 0, 1, 1, 1, 1, 1, 1, 1, 1, 1, 0, 0])] (s13_p14_den K) (fun i => (bif Nat.beq i 0 then (s13_p1_den K) else (fun _ _ => False))) (s13_R K)
theorem s13_p15_ok (K : Value → World → Prop) (s : Nat → Value) (w : World) (h : s13_p15 K (s 0) (s 3) (s 4) w) : Tr (s13_p15_den K s w) :=
  tr_draw (P := Try.prog) (ops := (ro (cd (Try.f13.body.getD .skip) [1, 0, 1, 0, 1, 1, 1, 1, 1, 1, 1, 1, 1, 0, 0]))) (ms := [0, 1, 3, 7, 0, 16, 63]) (cs := [0, 1, 2, 3, 4, 5]) (N := (fun s w => s13_p14 K (s 4) w)) (N' := (s13_p14_den K)) (s := s) (w := w) (p := s13_p15 K (s 0) (s 3) (s 4) w) (q := s13_p15_den K s w) (by kernel_rfl) (by kernel_rfl) (fun s w h => s13_p14_ok K s w @h) (by kernel_rfl) (by kernel_rfl) @h
def s13_p16 (K : Value → World → Prop) (t4 : Value) (w : World) : Prop :=
  bdq [(.bool false), (.int .u64 0), (.slice none 0 0)] [(some (0, 1), (.bool true))] (fun t130 w =>
  stn 3 t4 t130 (fun w =>
  ldn 3 t4 (fun r0 _ =>
  K r0 w) w) w) w
def s13_p16_den (K : Value → World → Prop) : (Nat → Value) → World → Prop := denL Try.prog [(cd (Try.f13.body.getD .skip) [1, 0, 1, 0, 1, 1, 1, 1, 1, 1, 1, 1, 1, 1, 1, 0, 1, 0]), (cd (Try.f13.body.getD .skip) [1, 0, 1, 0, 1, 1, 1, 1, 1, 1, 1, 1, 1, 1, 1, 0, 1, 1])] (fun _ _ => False) (fun i => (bif Nat.beq i 0 then (s13_p1_den K) else (fun _ _ => False))) (s13_R K)
theorem s13_p16_ok (K : Value → World → Prop) (s : Nat → Value) (w : World) (h : s13_p16 K (s 4) w) : Tr (s13_p16_den K s w) :=
  tr_simple (P := Try.prog) (codes := [(cd (Try.f13.body.getD .skip) [1, 0, 1, 0, 1, 1, 1, 1, 1, 1, 1, 1, 1, 1, 1, 0, 1, 0]), (cd (Try.f13.body.getD .skip) [1, 0, 1, 0, 1, 1, 1, 1, 1, 1, 1, 1, 1, 1, 1, 0, 1, 1])]) (N := (fun _ _ => False)) (N' := (fun _ _ => False)) (X := (fun i => (bif Nat.beq i 0 then (fun s w => s13_p1 K (s 4) w) else (fun _ _ => False)))) (X' := (fun i => (bif Nat.beq i 0 then (s13_p1_den K) else (fun _ _ => False)))) (R := s13_R K) (s := s) (w := w) (p := s13_p16 K (s 4) w) (q := s13_p16_den K s w) tr_id (fun i => (tr_bif (fun s w h => s13_p1_ok K s w @h) tr_id)) (by kernel_rfl) (by kernel_rfl) @h
def s13_p17_d (K : Value → World → Prop) (t0 t3 t4 : Value) (w0 w : World) : Prop :=
  nck t0 (fun t124 _ =>
  fd 0 t124 (fun t125 _ =>
  ld1 t125 (fun t126 _ =>
  fd 3 t3 (fun t127 _ =>
  ld1 t127 (fun t128 _ =>
  cl Try.prog 39 #[t126, t128] (fun t129 w =>
  s13_p16 K t4 w) w) w0) w0) w0) w0) w0
def s13_p17 (K : Value → World → Prop) (t0 t3 t4 : Value) (w : World) : Prop := s13_p17_d K t0 t3 t4 (drw w) (drw w)
def s13_p17_den (K : Value → World → Prop) : (Nat → Value) → World → Prop := denL Try.prog [(cd (Try.f13.body.getD .skip) [1, 0, 1, 0, 1, 1, 1, 1, 1, 1, 1, 1, 1, 1, 1, 0, 0])] (s13_p16_den K) (fun i => (bif Nat.beq i 0 then (s13_p1_den K) else (fun _ _ => False))) (s13_R K)
theorem s13_p17_ok (K : Value → World → Prop) (s : Nat → Value) (w : World) (h : s13_p17 K (s 0) (s 3) (s 4) w) : Tr (s13_p17_den K s w) :=
  tr_draw (P := Try.prog) (ops := (ro (cd (Try.f13.body.getD .skip) [1, 0, 1, 0, 1, 1, 1, 1, 1, 1, 1, 1, 1, 1, 1, 0, 0]))) (ms := [0, 1, 3, 7, 0, 16, 63]) (cs := [0, 1, 2, 3, 4, 5]) (N := (fun s w => s13_p16 K (s 4) w)) (N' := (s13_p16_den K)) (s := s) (w := w) (p := s13_p17 K (s 0) (s 3) (s 4) w) (q := s13_p17_den K s w) (by kernel_rfl) (by kernel_rfl) (fun s w h => s13_p16_ok K s w @h) (by kernel_rfl) (by kernel_rfl) @h
def s13_p18 (K : Value → World → Prop) (t4 : Value) (w : World) : Prop :=
  ldn 3 t4 (fun r0 _ =>
  K r0 w) w
def s13_p18_den (K : Value → World → Prop) : (Nat → Value) → World → Prop := denL Try.prog [(cd (Try.f13.body.getD .skip) [1, 0, 1, 0, 1, 1, 1, 1, 1, 1, 1, 1, 1, 1, 1, 1, 1, 0, 1])] (fun _ _ => False) (fun i => (bif Nat.beq i 0 then (s13_p1_den K) else (fun _ _ => False))) (s13_R K)
theorem s13_p18_ok (K : Value → World → Prop) (s : Nat → Value) (w : World) (h : s13_p18 K (s 4) w) : Tr (s13_p18_den K s w) :=
  tr_simple (P := Try.prog) (codes := [(cd (Try.f13.body.getD .skip) [1, 0, 1, 0, 1, 1, 1, 1, 1, 1, 1, 1, 1, 1, 1, 1, 1, 0, 1])]) (N := (fun _ _ => False)) (N' := (fun _ _ => False)) (X := (fun i => (bif Nat.beq i 0 then (fun s w => s13_p1 K (s 4) w) else (fun _ _ => False)))) (X' := (fun i => (bif Nat.beq i 0 then (s13_p1_den K) else (fun _ _ => False)))) (R := s13_R K) (s := s) (w := w) (p := s13_p18 K (s 4) w) (q := s13_p18_den K s w) tr_id (fun i => (tr_bif (fun s w h => s13_p1_ok K s w @h) tr_id)) (by kernel_rfl) (by kernel_rfl) @h
def s13_p19_d (K : Value → World → Prop) (t0 t3 t4 : Value) (w0 w : World) : Prop :=
  nck t0 (fun t134 _ =>
  fd 0 t134 (fun t135 _ =>
  ld1 t135 (fun t136 _ =>
  fd 5 t3 (fun t137 _ =>
  ld1 t137 (fun t138 _ =>
  cl Try.prog 40 #[t136, t138] (fun t139 w =>
  bdq [(.bool false), (.int .u64 0), (.slice none 0 0)] [(some (0, 1), t139)] (fun t140 w =>
  stn 3 t4 t140 (fun w =>
  s13_p18 K t4 w) w) w) w) w0) w0) w0) w0) w0
def s13_p19 (K : Value → World → Prop) (t0 t3 t4 : Value) (w : World) : Prop := s13_p19_d K t0 t3 t4 (drw w) (drw w)
def s13_p19_den (K : Value → World → Prop) : (Nat → Value) → World → Prop := denL Try.prog [(cd (Try.f13.body.getD .skip) [1, 0, 1, 0, 1, 1, 1, 1, 1, 1, 1, 1, 1, 1, 1, 1, 1, 0, 0])] (s13_p18_den K) (fun i => (bif Nat.beq i 0 then (s13_p1_den K) else (fun _ _ => False))) (s13_R K)
theorem s13_p19_ok (K : Value → World → Prop) (s : Nat → Value) (w : World) (h : s13_p19 K (s 0) (s 3) (s 4) w) : Tr (s13_p19_den K s w) :=
  tr_draw (P := Try.prog) (ops := (ro (cd (Try.f13.body.getD .skip) [1, 0, 1, 0, 1, 1, 1, 1, 1, 1, 1, 1, 1, 1, 1, 1, 1, 0, 0]))) (ms := [0, 1, 3, 7, 0, 16, 63, 127, 255]) (cs := [0, 1, 2, 3, 4, 5]) (N := (fun s w => s13_p18 K (s 4) w)) (N' := (s13_p18_den K)) (s := s) (w := w) (p := s13_p19 K (s 0) (s 3) (s 4) w) (q := s13_p19_den K s w) (by kernel_rfl) (by kernel_rfl) (fun s w h => s13_p18_ok K s w @h) (by kernel_rfl) (by kernel_rfl) @h
def s13_p20 (K : Value → World → Prop) (t4 : Value) (w : World) : Prop :=
  ldn 3 t4 (fun r0 _ =>
  K r0 w) w
def s13_p20_den (K : Value → World → Prop) : (Nat → Value) → World → Prop := denL Try.prog [(cd (Try.f13.body.getD .skip) [1, 0, 1, 0, 1, 1, 1, 1, 1, 1, 1, 1, 1, 1, 1, 1, 1, 1, 1, 0, 1])] (fun _ _ => False) (fun i => (bif Nat.beq i 0 then (s13_p1_den K) else (fun _ _ => False))) (s13_R K)
theorem s13_p20_ok (K : Value → World → Prop) (s : Nat → Value) (w : World) (h : s13_p20 K (s 4) w) : Tr (s13_p20_den K s w) :=
  tr_simple (P := Try.prog) (codes := [(cd (Try.f13.body.getD .skip) [1, 0, 1, 0, 1, 1, 1, 1, 1, 1, 1, 1, 1, 1, 1, 1, 1, 1, 1, 0, 1])]) (N := (fun _ _ => False)) (N' := (fun _ _ => False)) (X := (fun i => (bif Nat.beq i 0 then (fun s w => s13_p1 K (s 4) w) else (fun _ _ => False)))) (X' := (fun i => (bif Nat.beq i 0 then (s13_p1_den K) else (fun _ _ => False)))) (R := s13_R K) (s := s) (w := w) (p := s13_p20 K (s 4) w) (q := s13_p20_den K s w) tr_id (fun i => (tr_bif (fun s w h => s13_p1_ok K s w @h) tr_id)) (by kernel_rfl) (by kernel_rfl) @h
def s13_p21_d (K : Value → World → Prop) (t0 t3 t4 : Value) (w0 w : World) : Prop :=
  nck t0 (fun t144 _ =>
  fd 0 t144 (fun t145 _ =>
  ld1 t145 (fun t146 _ =>
  fd 5 t3 (fun t147 _ =>
  ld1 t147 (fun t148 _ =>
  cl Try.prog 41 #[t146, t148] (fun t149 w =>
  bdq [(.bool false), (.int .u64 0), (.slice none 0 0)] [(some (0, 1), t149)] (fun t150 w =>
  stn 3 t4 t150 (fun w =>
  s13_p20 K t4 w) w) w) w) w0) w0) w0) w0) w0
def s13_p21 (K : Value → World → Prop) (t0 t3 t4 : Value) (w : World) : Prop := s13_p21_d K t0 t3 t4 (drw w) (drw w)
def s13_p21_den (K : Value → World → Prop) : (Nat → Value) → World → Prop := denL Try.prog [(cd (Try.f13.body.getD .skip) [1, 0, 1, 0, 1, 1, 1, 1, 1, 1, 1, 1, 1, 1, 1, 1, 1, 1, 1, 0, 0])] (s13_p20_den K) (fun i => (bif Nat.beq i 0 then (s13_p1_den K) else (fun _ _ => False))) (s13_R K)
theorem s13_p21_ok (K : Value → World → Prop) (s : Nat → Value) (w : World) (h : s13_p21 K (s 0) (s 3) (s 4) w) : Tr (s13_p21_den K s w) :=
  tr_draw (P := Try.prog) (ops := (ro (cd (Try.f13.body.getD .skip) [1, 0, 1, 0, 1, 1, 1, 1, 1, 1, 1, 1, 1, 1, 1, 1, 1, 1, 1, 0, 0]))) (ms := [0, 1, 3, 7, 0, 16, 63, 127, 255]) (cs := [0, 1, 2, 3, 4, 5]) (N := (fun s w => s13_p20 K (s 4) w)) (N' := (s13_p20_den K)) (s := s) (w := w) (p := s13_p21 K (s 0) (s 3) (s 4) w) (q := s13_p21_den K s w) (by kernel_rfl) (by kernel_rfl) (fun s w h => s13_p20_ok K s w @h) (by kernel_rfl) (by kernel_rfl) @h
def s13_p22 (K : Value → World → Prop) (t4 : Value) (w : World) : Prop :=
  ldn 3 t4 (fun r0 _ =>
  K r0 w) w
def s13_p22_den (K : Value → World → Prop) : (Nat → Value) → World → Prop := denL Try.prog [(cd (Try.f13.body.getD .skip) [1, 0, 1, 0, 1, 1, 1, 1, 1, 1, 1, 1, 1, 1, 1, 1, 1, 1, 1, 1, 1, 0, 1])] (fun _ _ => False) (fun i => (bif Nat.beq i 0 then (s13_p1_den K) else (fun _ _ => False))) (s13_R K)
theorem s13_p22_ok (K : Value → World → Prop) (s : Nat → Value) (w : World) (h : s13_p22 K (s 4) w) : Tr (s13_p22_den K s w) :=
  tr_simple (P := Try.prog) (codes := [(cd (Try.f13.body.getD .skip) [1, 0, 1, 0, 1, 1, 1, 1, 1, 1, 1, 1, 1, 1, 1, 1, 1, 1, 1, 1, 1, 0, 1])]) (N := (fun _ _ => False)) (N' := (fun _ _ => False)) (X := (fun i => (bif Nat.beq i 0 then (fun s w => s13_p1 K (s 4) w) else (fun _ _ => False)))) (X' := (fun i => (bif Nat.beq i 0 then (s13_p1_den K) else (fun _ _ => False)))) (R := s13_R K) (s := s) (w := w) (p := s13_p22 K (s 4) w) (q := s13_p22_den K s w) tr_id (fun i => (tr_bif (fun s w h => s13_p1_ok K s w @h) tr_id)) (by kernel_rfl) (by kernel_rfl) @h
def s13_p23_d (K : Value → World → Prop) (t0 t3 t4 : Value) (w0 w : World) : Prop :=
  nck t0 (fun t154 _ =>
  fd 0 t154 (fun t155 _ =>
  ld1 t155 (fun t156 _ =>
  nck t0 (fun t158 _ =>
  fd 0 t158 (fun t159 _ =>
  ld1 t159 (fun t160 _ =>
  fd 5 t3 (fun t161 _ =>
  ld1 t161 (fun t162 _ =>
  cl Try.prog 42 #[t156, t160, t162] (fun t163 w =>
  cvi .u64 t163 (fun t164 w =>
  bdq [(.bool false), (.int .u64 0), (.slice none 0 0)] [(some (0, 1), (.bool true)), (some (1, 1), t164)] (fun t165 w =>
  stn 3 t4 t165 (fun w =>
  s13_p22 K t4 w) w) w) w) w) w0) w0) w0) w0) w0) w0) w0) w0
def s13_p23 (K : Value → World → Prop) (t0 t3 t4 : Value) (w : World) : Prop := s13_p23_d K t0 t3 t4 (drw w) (drw w)
def s13_p23_den (K : Value → World → Prop) : (Nat → Value) → World → Prop := denL Try.prog [(cd (Try.f13.body.getD .skip) [1, 0, 1, 0, 1, 1, 1, 1, 1, 1, 1, 1, 1, 1, 1, 1, 1, 1, 1, 1, 1, 0, 0])] (s13_p22_den K) (fun i => (bif Nat.beq i 0 then (s13_p1_den K) else (fun _ _ => False))) (s13_R K)
theorem s13_p23_ok (K : Value → World → Prop) (s : Nat → Value) (w : World) (h : s13_p23 K (s 0) (s 3) (s 4) w) : Tr (s13_p23_den K s w) :=
  tr_draw (P := Try.prog) (ops := (ro (cd (Try.f13.body.getD .skip) [1, 0, 1, 0, 1, 1, 1, 1, 1, 1, 1, 1, 1, 1, 1, 1, 1, 1, 1, 1, 1, 0, 0]))) (ms := [0, 1, 3, 7, 0, 16, 48, 112, 0, 256, 1023, 2047, 4095, 8191]) (cs := [0, 1, 2, 3, 4, 5, 6, 7, 8, 9]) (N := (fun s w => s13_p22 K (s 4) w)) (N' := (s13_p22_den K)) (s := s) (w := w) (p := s13_p23 K (s 0) (s 3) (s 4) w) (q := s13_p23_den K s w) (by kernel_rfl) (by kernel_rfl) (fun s w h => s13_p22_ok K s w @h) (by kernel_rfl) (by kernel_rfl) @h
def s13_p24 (K : Value → World → Prop) (t4 : Value) (w : World) : Prop :=
  ldn 3 t4 (fun r0 _ =>
  K r0 w) w
def s13_p24_den (K : Value → World → Prop) : (Nat → Value) → World → Prop := denL Try.prog [(cd (Try.f13.body.getD .skip) [1, 0, 1, 0, 1, 1, 1, 1, 1, 1, 1, 1, 1, 1, 1, 1, 1, 1, 1, 1, 1, 1, 1, 0, 1])] (fun _ _ => False) (fun i => (bif Nat.beq i 0 then (s13_p1_den K) else (fun _ _ => False))) (s13_R K)
theorem s13_p24_ok (K : Value → World → Prop) (s : Nat → Value) (w : World) (h : s13_p24 K (s 4) w) : Tr (s13_p24_den K s w) :=
  tr_simple (P := Try.prog) (codes := [(cd (Try.f13.body.getD .skip) [1, 0, 1, 0, 1, 1, 1, 1, 1, 1, 1, 1, 1, 1, 1, 1, 1, 1, 1, 1, 1, 1, 1, 0, 1])]) (N := (fun _ _ => False)) (N' := (fun _ _ => False)) (X := (fun i => (bif Nat.beq i 0 then (fun s w => s13_p1 K (s 4) w) else (fun _ _ => False)))) (X' := (fun i => (bif Nat.beq i 0 then (s13_p1_den K) else (fun _ _ => False)))) (R := s13_R K) (s := s) (w := w) (p := s13_p24 K (s 4) w) (q := s13_p24_den K s w) tr_id (fun i => (tr_bif (fun s w h => s13_p1_ok K s w @h) tr_id)) (by kernel_rfl) (by kernel_rfl) @h
def s13_p25_d (K : Value → World → Prop) (t0 t3 t4 : Value) (w0 w : World) : Prop :=
  nck t0 (fun t169 _ =>
  fd 0 t169 (fun t170 _ =>
  ld1 t170 (fun t171 _ =>
  fd 5 t3 (fun t172 _ =>
  ld1 t172 (fun t173 _ =>
  cl Try.prog 43 #[t171, t173] (fun t174 w =>
  bdq [(.bool false), (.int .u64 0), (.slice none 0 0)] [(some (0, 1), t174)] (fun t175 w =>
  stn 3 t4 t175 (fun w =>
  s13_p24 K t4 w) w) w) w) w0) w0) w0) w0) w0
def s13_p25 (K : Value → World → Prop) (t0 t3 t4 : Value) (w : World) : Prop := s13_p25_d K t0 t3 t4 (drw w) (drw w)
def s13_p25_den (K : Value → World → Prop) : (Nat → Value) → World → Prop := denL Try.prog [(cd (Try.f13.body.getD .skip) [1, 0, 1, 0, 1, 1, 1, 1, 1, 1, 1, 1, 1, 1, 1, 1, 1, 1, 1, 1, 1, 1, 1, 0, 0])] (s13_p24_den K) (fun i => (bif Nat.beq i 0 then (s13_p1_den K) else (fun _ _ => False))) (s13_R K)
theorem s13_p25_ok (K : Value → World → Prop) (s : Nat → Value) (w : World) (h : s13_p25 K (s 0) (s 3) (s 4) w) : Tr (s13_p25_den K s w) :=
  tr_draw (P := Try.prog) (ops := (ro (cd (Try.f13.body.getD .skip) [1, 0, 1, 0, 1, 1, 1, 1, 1, 1, 1, 1, 1, 1, 1, 1, 1, 1, 1, 1, 1, 1, 1, 0, 0]))) (ms := [0, 1, 3, 7, 0, 16, 63, 127, 255]) (cs := [0, 1, 2, 3, 4, 5]) (N := (fun s w => s13_p24 K (s 4) w)) (N' := (s13_p24_den K)) (s := s) (w := w) (p := s13_p25 K (s 0) (s 3) (s 4) w) (q := s13_p25_den K s w) (by kernel_rfl) (by kernel_rfl) (fun s w h => s13_p24_ok K s w @h) (by kernel_rfl) (by kernel_rfl) @h
def s13_p26 (K : Value → World → Prop) (t0 t4 t5 t6 t7 : Value) (w : World) : Prop :=
  boF Try.prog true .neq t7 .nilIface (fun t194 w =>
  ifb t194
  (bdq [(.bool false), (.int .u64 0), (.slice none 0 0)] [] (fun t195 w =>
  stn 3 t4 t195 (fun w =>
  ldn 3 t4 (fun r0 _ =>
  K r0 w) w) w) w)
  (nck t0 (fun t198 w =>
  fd 0 t198 (fun t199 w =>
  st1 t199 t6 (fun w =>
  lnS t6 (fun t201 w =>
  boI .sub t201 t5 (fun t203 w =>
  cvi .u64 t203 (fun t204 w =>
  bdq [(.bool false), (.int .u64 0), (.slice none 0 0)] [(some (0, 1), (.bool true)), (some (1, 1), t204)] (fun t205 w =>
  stn 3 t4 t205 (fun w =>
  ldn 3 t4 (fun r0 _ =>
  K r0 w) w) w) w) w) w) w) w) w) w)) w
def s13_p26_den (K : Value → World → Prop) : (Nat → Value) → World → Prop := denL Try.prog [(cd (Try.f13.body.getD .skip) [1, 0, 1, 0, 1, 1, 1, 1, 1, 1, 1, 1, 1, 1, 1, 1, 1, 1, 1, 1, 1, 1, 1, 1, 1, 0, 1, 1, 0, 0]), (cd (Try.f13.body.getD .skip) [1, 0, 1, 0, 1, 1, 1, 1, 1, 1, 1, 1, 1, 1, 1, 1, 1, 1, 1, 1, 1, 1, 1, 1, 1, 0, 1, 1, 0, 1]), (cd (Try.f13.body.getD .skip) [1, 0, 1, 0, 1, 1, 1, 1, 1, 1, 1, 1, 1, 1, 1, 1, 1, 1, 1, 1, 1, 1, 1, 1, 1, 0, 1, 1, 1, 0]), (cd (Try.f13.body.getD .skip) [1, 0, 1, 0, 1, 1, 1, 1, 1, 1, 1, 1, 1, 1, 1, 1, 1, 1, 1, 1, 1, 1, 1, 1, 1, 0, 1, 1, 1, 1, 0]), (cd (Try.f13.body.getD .skip) [1, 0, 1, 0, 1, 1, 1, 1, 1, 1, 1, 1, 1, 1, 1, 1, 1, 1, 1, 1, 1, 1, 1, 1, 1, 0, 1, 1, 1, 1, 1])] (fun _ _ => False) (fun i => (bif Nat.beq i 0 then (s13_p1_den K) else (fun _ _ => False))) (s13_R K)
theorem s13_p26_ok (K : Value → World → Prop) (s : Nat → Value) (w : World) (h : s13_p26 K (s 0) (s 4) (s 5) (s 6) (s 7) w) : Tr (s13_p26_den K s w) :=
  tr_simple (P := Try.prog) (codes := [(cd (Try.f13.body.getD .skip) [1, 0, 1, 0, 1, 1, 1, 1, 1, 1, 1, 1, 1, 1, 1, 1, 1, 1, 1, 1, 1, 1, 1, 1, 1, 0, 1, 1, 0, 0]), (cd (Try.f13.body.getD .skip) [1, 0, 1, 0, 1, 1, 1, 1, 1, 1, 1, 1, 1, 1, 1, 1, 1, 1, 1, 1, 1, 1, 1, 1, 1, 0, 1, 1, 0, 1]), (cd (Try.f13.body.getD .skip) [1, 0, 1, 0, 1, 1, 1, 1, 1, 1, 1, 1, 1, 1, 1, 1, 1, 1, 1, 1, 1, 1, 1, 1, 1, 0, 1, 1, 1, 0]), (cd (Try.f13.body.getD .skip) [1, 0, 1, 0, 1, 1, 1, 1, 1, 1, 1, 1, 1, 1, 1, 1, 1, 1, 1, 1, 1, 1, 1, 1, 1, 0, 1, 1, 1, 1, 0]), (cd (Try.f13.body.getD .skip) [1, 0, 1, 0, 1, 1, 1, 1, 1, 1, 1, 1, 1, 1, 1, 1, 1, 1, 1, 1, 1, 1, 1, 1, 1, 0, 1, 1, 1, 1, 1])]) (N := (fun _ _ => False)) (N' := (fun _ _ => False)) (X := (fun i => (bif Nat.beq i 0 then (fun s w => s13_p1 K (s 4) w) else (fun _ _ => False)))) (X' := (fun i => (bif Nat.beq i 0 then (s13_p1_den K) else (fun _ _ => False)))) (R := s13_R K) (s := s) (w := w) (p := s13_p26 K (s 0) (s 4) (s 5) (s 6) (s 7) w) (q := s13_p26_den K s w) tr_id (fun i => (tr_bif (fun s w h => s13_p1_ok K s w @h) tr_id)) (by kernel_rfl) (by kernel_rfl) @h
def s13_p27_d (K : Value → World → Prop) (t0 t3 t4 t5 : Value) (w0 w : World) : Prop :=
  nck t0 (fun t185 _ =>
  fd 0 t185 (fun t186 _ =>
  ld1 t186 (fun t187 _ =>
  fd 5 t3 (fun t188 _ =>
  ld1 t188 (fun t189 _ =>
  cl Try.prog 44 #[t187, t189] (fun t190 w =>
  (exq t190 0 (fun t191 w =>
  (exq t190 1 (fun t192 w =>
  s13_p26 K t0 t4 t5 t191 t192 w) w) ∧
  (exq t190 1 (fun t192_2 w =>
  s13_p26 K t0 t4 t5 t191 t192_2 w) w)) w) ∧
  (exq t190 1 (fun t192_3 w =>
  exq t190 0 (fun t191_2 w =>
  s13_p26 K t0 t4 t5 t191_2 t192_3 w) w) w)) w) w0) w0) w0) w0) w0
def s13_p27 (K : Value → World → Prop) (t0 t3 t4 t5 : Value) (w : World) : Prop := s13_p27_d K t0 t3 t4 t5 (drw w) (drw w)
def s13_p27_den (K : Value → World → Prop) : (Nat → Value) → World → Prop := denL Try.prog [(cd (Try.f13.body.getD .skip) [1, 0, 1, 0, 1, 1, 1, 1, 1, 1, 1, 1, 1, 1, 1, 1, 1, 1, 1, 1, 1, 1, 1, 1, 1, 0, 1, 0])] (s13_p26_den K) (fun i => (bif Nat.beq i 0 then (s13_p1_den K) else (fun _ _ => False))) (s13_R K)
theorem s13_p27_ok (K : Value → World → Prop) (s : Nat → Value) (w : World) (h : s13_p27 K (s 0) (s 3) (s 4) (s 5) w) : Tr (s13_p27_den K s w) :=
  tr_draw (P := Try.prog) (ops := (ro (cd (Try.f13.body.getD .skip) [1, 0, 1, 0, 1, 1, 1, 1, 1, 1, 1, 1, 1, 1, 1, 1, 1, 1, 1, 1, 1, 1, 1, 1, 1, 0, 1, 0]))) (ms := [0, 1, 3, 7, 0, 16, 63, 127, 255, 255, 511, 2047]) (cs := [0, 1, 2, 3, 4, 5]) (N := (fun s w => s13_p26 K (s 0) (s 4) (s 5) (s 6) (s 7) w)) (N' := (s13_p26_den K)) (s := s) (w := w) (p := s13_p27 K (s 0) (s 3) (s 4) (s 5) w) (q := s13_p27_den K s w) (by kernel_rfl) (by kernel_rfl) (fun s w h => s13_p26_ok K s w @h) (by kernel_rfl) (by kernel_rfl) @h
def s13_p28 (K : Value → World → Prop) (t0 t3 t4 : Value) (w : World) : Prop :=
  nck t0 (fun t179 w =>
  fd 0 t179 (fun t180 w =>
  ld1 t180 (fun t181 w =>
  lnS t181 (fun t182 w =>
  s13_p27 K t0 t3 t4 t182 w) w) w) w) w
def s13_p28_den (K : Value → World → Prop) : (Nat → Value) → World → Prop := denL Try.prog [(cd (Try.f13.body.getD .skip) [1, 0, 1, 0, 1, 1, 1, 1, 1, 1, 1, 1, 1, 1, 1, 1, 1, 1, 1, 1, 1, 1, 1, 1, 1, 0, 0])] (s13_p27_den K) (fun i => (bif Nat.beq i 0 then (s13_p1_den K) else (fun _ _ => False))) (s13_R K)
theorem s13_p28_ok (K : Value → World → Prop) (s : Nat → Value) (w : World) (h : s13_p28 K (s 0) (s 3) (s 4) w) : Tr (s13_p28_den K s w) :=
  tr_simple (P := Try.prog) (codes := [(cd (Try.f13.body.getD .skip) [1, 0, 1, 0, 1, 1, 1, 1, 1, 1, 1, 1, 1, 1, 1, 1, 1, 1, 1, 1, 1, 1, 1, 1, 1, 0, 0])]) (N := (fun s w => s13_p27 K (s 0) (s 3) (s 4) (s 5) w)) (N' := (s13_p27_den K)) (X := (fun i => (bif Nat.beq i 0 then (fun s w => s13_p1 K (s 4) w) else (fun _ _ => False)))) (X' := (fun i => (bif Nat.beq i 0 then (s13_p1_den K) else (fun _ _ => False)))) (R := s13_R K) (s := s) (w := w) (p := s13_p28 K (s 0) (s 3) (s 4) w) (q := s13_p28_den K s w) (fun s w h => s13_p27_ok K s w @h) (fun i => (tr_bif (fun s w h => s13_p1_ok K s w @h) tr_id)) (by kernel_rfl) (by kernel_rfl) @h
def s13_p29 (K : Value → World → Prop) (t0 t4 : Value) (w : World) : Prop :=
  nck t0 (fun t210 w =>
  fd 0 t210 (fun t211 w =>
  ld1 t211 (fun t212 w =>
  cl Try.prog 32 #[t212] (fun t213 w =>
  cl Try.prog 45 #[t213] (fun t214 w =>
  nck t0 (fun t215 w =>
  fd 1 t215 (fun t216 w =>
  stn 3 t216 t214 (fun w =>
  bdq [(.bool false), (.int .u64 0), (.slice none 0 0)] [(some (0, 1), (.bool true))] (fun t217 w =>
  stn 3 t4 t217 (fun w =>
  ldn 3 t4 (fun r0 _ =>
  K r0 w) w) w) w) w) w) w) w) w) w) w) w
def s13_p29_den (K : Value → World → Prop) : (Nat → Value) → World → Prop := denL Try.prog [(cd (Try.f13.body.getD .skip) [1, 0, 1, 0, 1, 1, 1, 1, 1, 1, 1, 1, 1, 1, 1, 1, 1, 1, 1, 1, 1, 1, 1, 1, 1, 1, 1, 0, 0]), (cd (Try.f13.body.getD .skip) [1, 0, 1, 0, 1, 1, 1, 1, 1, 1, 1, 1, 1, 1, 1, 1, 1, 1, 1, 1, 1, 1, 1, 1, 1, 1, 1, 0, 1, 0]), (cd (Try.f13.body.getD .skip) [1, 0, 1, 0, 1, 1, 1, 1, 1, 1, 1, 1, 1, 1, 1, 1, 1, 1, 1, 1, 1, 1, 1, 1, 1, 1, 1, 0, 1, 1])] (fun _ _ => False) (fun i => (bif Nat.beq i 0 then (s13_p1_den K) else (fun _ _ => False))) (s13_R K)
theorem s13_p29_ok (K : Value → World → Prop) (s : Nat → Value) (w : World) (h : s13_p29 K (s 0) (s 4) w) : Tr (s13_p29_den K s w) :=
  tr_simple (P := Try.prog) (codes := [(cd (Try.f13.body.getD .skip) [1, 0, 1, 0, 1, 1, 1, 1, 1, 1, 1, 1, 1, 1, 1, 1, 1, 1, 1, 1, 1, 1, 1, 1, 1, 1, 1, 0, 0]), (cd (Try.f13.body.getD .skip) [1, 0, 1, 0, 1, 1, 1, 1, 1, 1, 1, 1, 1, 1, 1, 1, 1, 1, 1, 1, 1, 1, 1, 1, 1, 1, 1, 0, 1, 0]), (cd (Try.f13.body.getD .skip) [1, 0, 1, 0, 1, 1, 1, 1, 1, 1, 1, 1, 1, 1, 1, 1, 1, 1, 1, 1, 1, 1, 1, 1, 1, 1, 1, 0, 1, 1])]) (N := (fun _ _ => False)) (N' := (fun _ _ => False)) (X := (fun i => (bif Nat.beq i 0 then (fun s w => s13_p1 K (s 4) w) else (fun _ _ => False)))) (X' := (fun i => (bif Nat.beq i 0 then (s13_p1_den K) else (fun _ _ => False)))) (R := s13_R K) (s := s) (w := w) (p := s13_p29 K (s 0) (s 4) w) (q := s13_p29_den K s w) tr_id (fun i => (tr_bif (fun s w h => s13_p1_ok K s w @h) tr_id)) (by kernel_rfl) (by kernel_rfl) @h
def s13_p30 (K : Value → World → Prop) (t0 t4 t8 : Value) (w : World) : Prop :=
  nck t0 (fun t234 w =>
  fd 1 t234 (fun t235 w =>
  cl Try.prog 47 #[t235] (fun t236 w =>
  ifb t236
  (bdq [(.bool false), (.int .u64 0), (.slice none 0 0)] [] (fun t237 w =>
  stn 3 t4 t237 (fun w =>
  ldn 3 t4 (fun r0 _ =>
  K r0 w) w) w) w)
  (bdq [(.bool false), (.int .u64 0), (.slice none 0 0)] [(some (0, 1), (.bool true)), (some (1, 1), t8)] (fun t239 w =>
  stn 3 t4 t239 (fun w =>
  ldn 3 t4 (fun r0 _ =>
  K r0 w) w) w) w)) w) w) w
def s13_p30_den (K : Value → World → Prop) : (Nat → Value) → World → Prop := denL Try.prog [(cd (Try.f13.body.getD .skip) [1, 0, 1, 0, 1, 1, 1, 1, 1, 1, 1, 1, 1, 1, 1, 1, 1, 1, 1, 1, 1, 1, 1, 1, 1, 1, 1, 1, 1, 0, 1, 1, 0, 0]), (cd (Try.f13.body.getD .skip) [1, 0, 1, 0, 1, 1, 1, 1, 1, 1, 1, 1, 1, 1, 1, 1, 1, 1, 1, 1, 1, 1, 1, 1, 1, 1, 1, 1, 1, 0, 1, 1, 0, 1]), (cd (Try.f13.body.getD .skip) [1, 0, 1, 0, 1, 1, 1, 1, 1, 1, 1, 1, 1, 1, 1, 1, 1, 1, 1, 1, 1, 1, 1, 1, 1, 1, 1, 1, 1, 0, 1, 1, 1, 0]), (cd (Try.f13.body.getD .skip) [1, 0, 1, 0, 1, 1, 1, 1, 1, 1, 1, 1, 1, 1, 1, 1, 1, 1, 1, 1, 1, 1, 1, 1, 1, 1, 1, 1, 1, 0, 1, 1, 1, 1])] (fun _ _ => False) (fun i => (bif Nat.beq i 0 then (s13_p1_den K) else (fun _ _ => False))) (s13_R K)
theorem s13_p30_ok (K : Value → World → Prop) (s : Nat → Value) (w : World) (h : s13_p30 K (s 0) (s 4) (s 8) w) : Tr (s13_p30_den K s w) :=
  tr_simple (P := Try.prog) (codes := [(cd (Try.f13.body.getD .skip) [1, 0, 1, 0, 1, 1, 1, 1, 1, 1, 1, 1, 1, 1, 1, 1, 1, 1, 1, 1, 1, 1, 1, 1, 1, 1, 1, 1, 1, 0, 1, 1, 0, 0]), (cd (Try.f13.body.getD .skip) [1, 0, 1, 0, 1, 1, 1, 1, 1, 1, 1, 1, 1, 1, 1, 1, 1, 1, 1, 1, 1, 1, 1, 1, 1, 1, 1, 1, 1, 0, 1, 1, 0, 1]), (cd (Try.f13.body.getD .skip) [1, 0, 1, 0, 1, 1, 1, 1, 1, 1, 1, 1, 1, 1, 1, 1, 1, 1, 1, 1, 1, 1, 1, 1, 1, 1, 1, 1, 1, 0, 1, 1, 1, 0]), (cd (Try.f13.body.getD .skip) [1, 0, 1, 0, 1, 1, 1, 1, 1, 1, 1, 1, 1, 1, 1, 1, 1, 1, 1, 1, 1, 1, 1, 1, 1, 1, 1, 1, 1, 0, 1, 1, 1, 1])]) (N := (fun _ _ => False)) (N' := (fun _ _ => False)) (X := (fun i => (bif Nat.beq i 0 then (fun s w => s13_p1 K (s 4) w) else (fun _ _ => False)))) (X' := (fun i => (bif Nat.beq i 0 then (s13_p1_den K) else (fun _ _ => False)))) (R := s13_R K) (s := s) (w := w) (p := s13_p30 K (s 0) (s 4) (s 8) w) (q := s13_p30_den K s w) tr_id (fun i => (tr_bif (fun s w h => s13_p1_ok K s w @h) tr_id)) (by kernel_rfl) (by kernel_rfl) @h
def s13_p31_d (K : Value → World → Prop) (t0 t3 t4 : Value) (w0 w : World) : Prop :=
  nck t0 (fun t226 _ =>
  fd 1 t226 (fun t227 _ =>
  fd 1 t3 (fun t228 _ =>
  ld1 t228 (fun t229 _ =>
  fd 2 t3 (fun t230 _ =>
  ld1 t230 (fun t231 _ =>
  cl Try.prog 46 #[t227, t229, t231] (fun t232 w =>
  s13_p30 K t0 t4 t232 w) w) w0) w0) w0) w0) w0) w0
def s13_p31 (K : Value → World → Prop) (t0 t3 t4 : Value) (w : World) : Prop := s13_p31_d K t0 t3 t4 (drw w) (drw w)
def s13_p31_den (K : Value → World → Prop) : (Nat → Value) → World → Prop := denL Try.prog [(cd (Try.f13.body.getD .skip) [1, 0, 1, 0, 1, 1, 1, 1, 1, 1, 1, 1, 1, 1, 1, 1, 1, 1, 1, 1, 1, 1, 1, 1, 1, 1, 1, 1, 1, 0, 1, 0])] (s13_p30_den K) (fun i => (bif Nat.beq i 0 then (s13_p1_den K) else (fun _ _ => False))) (s13_R K)
theorem s13_p31_ok (K : Value → World → Prop) (s : Nat → Value) (w : World) (h : s13_p31 K (s 0) (s 3) (s 4) w) : Tr (s13_p31_den K s w) :=
  tr_draw (P := Try.prog) (ops := (ro (cd (Try.f13.body.getD .skip) [1, 0, 1, 0, 1, 1, 1, 1, 1, 1, 1, 1, 1, 1, 1, 1, 1, 1, 1, 1, 1, 1, 1, 1, 1, 1, 1, 1, 1, 0, 1, 0]))) (ms := [0, 1, 3, 0, 8, 0, 32, 127, 255]) (cs := [0, 1, 2, 3, 4, 5, 6]) (N := (fun s w => s13_p30 K (s 0) (s 4) (s 8) w)) (N' := (s13_p30_den K)) (s := s) (w := w) (p := s13_p31 K (s 0) (s 3) (s 4) w) (q := s13_p31_den K s w) (by kernel_rfl) (by kernel_rfl) (fun s w h => s13_p30_ok K s w @h) (by kernel_rfl) (by kernel_rfl) @h
def s13_p32 (K : Value → World → Prop) (t0 t3 t4 : Value) (w : World) : Prop :=
  fd 1 t3 (fun t220 w =>
  ld1 t220 (fun t221 w =>
  cl Try.prog 33 #[t221] (fun t222 w =>
  un .not t222 (fun t223 w =>
  ifb t223
  (bdq [(.bool false), (.int .u64 0), (.slice none 0 0)] [] (fun t224 w =>
  stn 3 t4 t224 (fun w =>
  ldn 3 t4 (fun r0 _ =>
  K r0 w) w) w) w)
  (s13_p31 K t0 t3 t4 w)) w) w) w) w
def s13_p32_den (K : Value → World → Prop) : (Nat → Value) → World → Prop := denL Try.prog [(cd (Try.f13.body.getD .skip) [1, 0, 1, 0, 1, 1, 1, 1, 1, 1, 1, 1, 1, 1, 1, 1, 1, 1, 1, 1, 1, 1, 1, 1, 1, 1, 1, 1, 1, 0, 0, 0]), (cd (Try.f13.body.getD .skip) [1, 0, 1, 0, 1, 1, 1, 1, 1, 1, 1, 1, 1, 1, 1, 1, 1, 1, 1, 1, 1, 1, 1, 1, 1, 1, 1, 1, 1, 0, 0, 1])] (s13_p31_den K) (fun i => (bif Nat.beq i 0 then (s13_p1_den K) else (fun _ _ => False))) (s13_R K)
theorem s13_p32_ok (K : Value → World → Prop) (s : Nat → Value) (w : World) (h : s13_p32 K (s 0) (s 3) (s 4) w) : Tr (s13_p32_den K s w) :=
  tr_simple (P := Try.prog) (codes := [(cd (Try.f13.body.getD .skip) [1, 0, 1, 0, 1, 1, 1, 1, 1, 1, 1, 1, 1, 1, 1, 1, 1, 1, 1, 1, 1, 1, 1, 1, 1, 1, 1, 1, 1, 0, 0, 0]), (cd (Try.f13.body.getD .skip) [1, 0, 1, 0, 1, 1, 1, 1, 1, 1, 1, 1, 1, 1, 1, 1, 1, 1, 1, 1, 1, 1, 1, 1, 1, 1, 1, 1, 1, 0, 0, 1])]) (N := (fun s w => s13_p31 K (s 0) (s 3) (s 4) w)) (N' := (s13_p31_den K)) (X := (fun i => (bif Nat.beq i 0 then (fun s w => s13_p1 K (s 4) w) else (fun _ _ => False)))) (X' := (fun i => (bif Nat.beq i 0 then (s13_p1_den K) else (fun _ _ => False)))) (R := s13_R K) (s := s) (w := w) (p := s13_p32 K (s 0) (s 3) (s 4) w) (q := s13_p32_den K s w) (fun s w h => s13_p31_ok K s w @h) (fun i => (tr_bif (fun s w h => s13_p1_ok K s w @h) tr_id)) (by kernel_rfl) (by kernel_rfl) @h
def s13_p33 (K : Value → World → Prop) (t0 t4 t9 : Value) (w : World) : Prop :=
  nck t0 (fun t249 w =>
  fd 1 t249 (fun t250 w =>
  cl Try.prog 47 #[t250] (fun t251 w =>
  ifb t251
  (bdq [(.bool false), (.int .u64 0), (.slice none 0 0)] [] (fun t252 w =>
  stn 3 t4 t252 (fun w =>
  ldn 3 t4 (fun r0 _ =>
  K r0 w) w) w) w)
  (cl Try.prog 32 #[t9] (fun t254 w =>
  bdq [(.bool false), (.int .u64 0), (.slice none 0 0)] [(some (0, 1), (.bool true)), (some (2, 1), t254)] (fun t255 w =>
  stn 3 t4 t255 (fun w =>
  ldn 3 t4 (fun r0 _ =>
  K r0 w) w) w) w) w)) w) w) w
def s13_p33_den (K : Value → World → Prop) : (Nat → Value) → World → Prop := denL Try.prog [(cd (Try.f13.body.getD .skip) [1, 0, 1, 0, 1, 1, 1, 1, 1, 1, 1, 1, 1, 1, 1, 1, 1, 1, 1, 1, 1, 1, 1, 1, 1, 1, 1, 1, 1, 1, 1, 0, 1, 0, 0]), (cd (Try.f13.body.getD .skip) [1, 0, 1, 0, 1, 1, 1, 1, 1, 1, 1, 1, 1, 1, 1, 1, 1, 1, 1, 1, 1, 1, 1, 1, 1, 1, 1, 1, 1, 1, 1, 0, 1, 0, 1]), (cd (Try.f13.body.getD .skip) [1, 0, 1, 0, 1, 1, 1, 1, 1, 1, 1, 1, 1, 1, 1, 1, 1, 1, 1, 1, 1, 1, 1, 1, 1, 1, 1, 1, 1, 1, 1, 0, 1, 1, 0]), (cd (Try.f13.body.getD .skip) [1, 0, 1, 0, 1, 1, 1, 1, 1, 1, 1, 1, 1, 1, 1, 1, 1, 1, 1, 1, 1, 1, 1, 1, 1, 1, 1, 1, 1, 1, 1, 0, 1, 1, 1])] (fun _ _ => False) (fun i => (bif Nat.beq i 0 then (s13_p1_den K) else (fun _ _ => False))) (s13_R K)
theorem s13_p33_ok (K : Value → World → Prop) (s : Nat → Value) (w : World) (h : s13_p33 K (s 0) (s 4) (s 9) w) : Tr (s13_p33_den K s w) :=
  tr_simple (P := Try.prog) (codes := [(cd (Try.f13.body.getD .skip) [1, 0, 1, 0, 1, 1, 1, 1, 1, 1, 1, 1, 1, 1, 1, 1, 1, 1, 1, 1, 1, 1, 1, 1, 1, 1, 1, 1, 1, 1, 1, 0, 1, 0, 0]), (cd (Try.f13.body.getD .skip) [1, 0, 1, 0, 1, 1, 1, 1, 1, 1, 1, 1, 1, 1, 1, 1, 1, 1, 1, 1, 1, 1, 1, 1, 1, 1, 1, 1, 1, 1, 1, 0, 1, 0, 1]), (cd (Try.f13.body.getD .skip) [1, 0, 1, 0, 1, 1, 1, 1, 1, 1, 1, 1, 1, 1, 1, 1, 1, 1, 1, 1, 1, 1, 1, 1, 1, 1, 1, 1, 1, 1, 1, 0, 1, 1, 0]), (cd (Try.f13.body.getD .skip) [1, 0, 1, 0, 1, 1, 1, 1, 1, 1, 1, 1, 1, 1, 1, 1, 1, 1, 1, 1, 1, 1, 1, 1, 1, 1, 1, 1, 1, 1, 1, 0, 1, 1, 1])]) (N := (fun _ _ => False)) (N' := (fun _ _ => False)) (X := (fun i => (bif Nat.beq i 0 then (fun s w => s13_p1 K (s 4) w) else (fun _ _ => False)))) (X' := (fun i => (bif Nat.beq i 0 then (s13_p1_den K) else (fun _ _ => False)))) (R := s13_R K) (s := s) (w := w) (p := s13_p33 K (s 0) (s 4) (s 9) w) (q := s13_p33_den K s w) tr_id (fun i => (tr_bif (fun s w h => s13_p1_ok K s w @h) tr_id)) (by kernel_rfl) (by kernel_rfl) @h
def s13_p34_d (K : Value → World → Prop) (t0 t3 t4 : Value) (w0 w : World) : Prop :=
  nck t0 (fun t243 _ =>
  fd 1 t243 (fun t244 _ =>
  fd 3 t3 (fun t245 _ =>
  ld1 t245 (fun t246 _ =>
  cl Try.prog 48 #[t244, t246] (fun t247 w =>
  s13_p33 K t0 t4 t247 w) w) w0) w0) w0) w0
def s13_p34 (K : Value → World → Prop) (t0 t3 t4 : Value) (w : World) : Prop := s13_p34_d K t0 t3 t4 (drw w) (drw w)
def s13_p34_den (K : Value → World → Prop) : (Nat → Value) → World → Prop := denL Try.prog [(cd (Try.f13.body.getD .skip) [1, 0, 1, 0, 1, 1, 1, 1, 1, 1, 1, 1, 1, 1, 1, 1, 1, 1, 1, 1, 1, 1, 1, 1, 1, 1, 1, 1, 1, 1, 1, 0, 0])] (s13_p33_den K) (fun i => (bif Nat.beq i 0 then (s13_p1_den K) else (fun _ _ => False))) (s13_R K)
theorem s13_p34_ok (K : Value → World → Prop) (s : Nat → Value) (w : World) (h : s13_p34 K (s 0) (s 3) (s 4) w) : Tr (s13_p34_den K s w) :=
  tr_draw (P := Try.prog) (ops := (ro (cd (Try.f13.body.getD .skip) [1, 0, 1, 0, 1, 1, 1, 1, 1, 1, 1, 1, 1, 1, 1, 1, 1, 1, 1, 1, 1, 1, 1, 1, 1, 1, 1, 1, 1, 1, 1, 0, 0]))) (ms := [0, 1, 3, 0, 8, 31, 63]) (cs := [0, 1, 2, 3, 4]) (N := (fun s w => s13_p33 K (s 0) (s 4) (s 9) w)) (N' := (s13_p33_den K)) (s := s) (w := w) (p := s13_p34 K (s 0) (s 3) (s 4) w) (q := s13_p34_den K s w) (by kernel_rfl) (by kernel_rfl) (fun s w h => s13_p33_ok K s w @h) (by kernel_rfl) (by kernel_rfl) @h
def s13_p35 (K : Value → World → Prop) (t4 : Value) (w : World) : Prop :=
  ldn 3 t4 (fun r0 _ =>
  K r0 w) w
def s13_p35_den (K : Value → World → Prop) : (Nat → Value) → World → Prop := denL Try.prog [(cd (Try.f13.body.getD .skip) [1, 0, 1, 0, 1, 1, 1, 1, 1, 1, 1, 1, 1, 1, 1, 1, 1, 1, 1, 1, 1, 1, 1, 1, 1, 1, 1, 1, 1, 1, 1, 1, 1, 0, 1])] (fun _ _ => False) (fun i => (bif Nat.beq i 0 then (s13_p1_den K) else (fun _ _ => False))) (s13_R K)
theorem s13_p35_ok (K : Value → World → Prop) (s : Nat → Value) (w : World) (h : s13_p35 K (s 4) w) : Tr (s13_p35_den K s w) :=
  tr_simple (P := Try.prog) (codes := [(cd (Try.f13.body.getD .skip) [1, 0, 1, 0, 1, 1, 1, 1, 1, 1, 1, 1, 1, 1, 1, 1, 1, 1, 1, 1, 1, 1, 1, 1, 1, 1, 1, 1, 1, 1, 1, 1, 1, 0, 1])]) (N := (fun _ _ => False)) (N' := (fun _ _ => False)) (X := (fun i => (bif Nat.beq i 0 then (fun s w => s13_p1 K (s 4) w) else (fun _ _ => False)))) (X' := (fun i => (bif Nat.beq i 0 then (s13_p1_den K) else (fun _ _ => False)))) (R := s13_R K) (s := s) (w := w) (p := s13_p35 K (s 4) w) (q := s13_p35_den K s w) tr_id (fun i => (tr_bif (fun s w h => s13_p1_ok K s w @h) tr_id)) (by kernel_rfl) (by kernel_rfl) @h
def s13_p36_d (K : Value → World → Prop) (t0 t3 t4 : Value) (w0 w : World) : Prop :=
  nck t0 (fun t259 _ =>
  fd 1 t259 (fun t260 _ =>
  fd 3 t3 (fun t261 _ =>
  ld1 t261 (fun t262 _ =>
  cl Try.prog 49 #[t260, t262] (fun t263 w =>
  bdq [(.bool false), (.int .u64 0), (.slice none 0 0)] [(some (0, 1), t263)] (fun t264 w =>
  stn 3 t4 t264 (fun w =>
  s13_p35 K t4 w) w) w) w) w0) w0) w0) w0
def s13_p36 (K : Value → World → Prop) (t0 t3 t4 : Value) (w : World) : Prop := s13_p36_d K t0 t3 t4 (drw w) (drw w)
def s13_p36_den (K : Value → World → Prop) : (Nat → Value) → World → Prop := denL Try.prog [(cd (Try.f13.body.getD .skip) [1, 0, 1, 0, 1, 1, 1, 1, 1, 1, 1, 1, 1, 1, 1, 1, 1, 1, 1, 1, 1, 1, 1, 1, 1, 1, 1, 1, 1, 1, 1, 1, 1, 0, 0])] (s13_p35_den K) (fun i => (bif Nat.beq i 0 then (s13_p1_den K) else (fun _ _ => False))) (s13_R K)
theorem s13_p36_ok (K : Value → World → Prop) (s : Nat → Value) (w : World) (h : s13_p36 K (s 0) (s 3) (s 4) w) : Tr (s13_p36_den K s w) :=
  tr_draw (P := Try.prog) (ops := (ro (cd (Try.f13.body.getD .skip) [1, 0, 1, 0, 1, 1, 1, 1, 1, 1, 1, 1, 1, 1, 1, 1, 1, 1, 1, 1, 1, 1, 1, 1, 1, 1, 1, 1, 1, 1, 1, 1, 1, 0, 0]))) (ms := [0, 1, 3, 0, 8, 31, 63, 127]) (cs := [0, 1, 2, 3, 4]) (N := (fun s w => s13_p35 K (s 4) w)) (N' := (s13_p35_den K)) (s := s) (w := w) (p := s13_p36 K (s 0) (s 3) (s 4) w) (q := s13_p36_den K s w) (by kernel_rfl) (by kernel_rfl) (fun s w h => s13_p35_ok K s w @h) (by kernel_rfl) (by kernel_rfl) @h
def s13_p37 (K : Value → World → Prop) (t0 t3 t4 t256 : Value) (w : World) : Prop :=
  ifb t256
  (s13_p36 K t0 t3 t4 w)
  (s13_p1 K t4 w)
def s13_p37_den (K : Value → World → Prop) : (Nat → Value) → World → Prop := fun s w => ifb (ev s (.tmp 256)) ((s13_p36_den K) s w) ((s13_p1_den K) s w)
theorem s13_p37_ok (K : Value → World → Prop) (s : Nat → Value) (w : World) (h : s13_p37 K (s 0) (s 3) (s 4) (s 256) w) : Tr (s13_p37_den K s w) :=
  tr_cond (v := ev s (.tmp 256)) (a := (fun s w => s13_p36 K (s 0) (s 3) (s 4) w) s w) (a' := (s13_p36_den K) s w) (b := (fun s w => s13_p1 K (s 4) w) s w) (b' := (s13_p1_den K) s w) (p := s13_p37 K (s 0) (s 3) (s 4) (s 256) w) (q := s13_p37_den K s w) ((fun s w h => s13_p36_ok K s w @h) s w) ((fun s w h => s13_p1_ok K s w @h) s w) (by kernel_rfl) (by kernel_rfl) @h
def s13_p38 (K : Value → World → Prop) (t0 t3 t4 t11 : Value) (w : World) : Prop :=
  boI .eql t11 (.int .i64 14) (fun t257 w =>
  s13_p37 K t0 t3 t4 t257 w) w
def s13_p38_den (K : Value → World → Prop) : (Nat → Value) → World → Prop := denL Try.prog [(cd (Try.f13.body.getD .skip) [1, 0, 1, 0, 1, 1, 1, 1, 1, 1, 1, 1, 1, 1, 1, 1, 1, 1, 1, 1, 1, 1, 1, 1, 1, 1, 1, 1, 1, 1, 1, 1, 0])] (s13_p37_den K) (fun i => (bif Nat.beq i 0 then (s13_p1_den K) else (fun _ _ => False))) (s13_R K)
theorem s13_p38_ok (K : Value → World → Prop) (s : Nat → Value) (w : World) (h : s13_p38 K (s 0) (s 3) (s 4) (s 11) w) : Tr (s13_p38_den K s w) :=
  tr_simple (P := Try.prog) (codes := [(cd (Try.f13.body.getD .skip) [1, 0, 1, 0, 1, 1, 1, 1, 1, 1, 1, 1, 1, 1, 1, 1, 1, 1, 1, 1, 1, 1, 1, 1, 1, 1, 1, 1, 1, 1, 1, 1, 0])]) (N := (fun s w => s13_p37 K (s 0) (s 3) (s 4) (s 256) w)) (N' := (s13_p37_den K)) (X := (fun i => (bif Nat.beq i 0 then (fun s w => s13_p1 K (s 4) w) else (fun _ _ => False)))) (X' := (fun i => (bif Nat.beq i 0 then (s13_p1_den K) else (fun _ _ => False)))) (R := s13_R K) (s := s) (w := w) (p := s13_p38 K (s 0) (s 3) (s 4) (s 11) w) (q := s13_p38_den K s w) (fun s w h => s13_p37_ok K s w @h) (fun i => (tr_bif (fun s w h => s13_p1_ok K s w @h) tr_id)) (by kernel_rfl) (by kernel_rfl) @h
def s13_p39 (K : Value → World → Prop) (t0 t3 t4 t11 t240 : Value) (w : World) : Prop :=
  ifb t240
  (s13_p34 K t0 t3 t4 w)
  (s13_p38 K t0 t3 t4 t11 w)
def s13_p39_den (K : Value → World → Prop) : (Nat → Value) → World → Prop := fun s w => ifb (ev s (.tmp 240)) ((s13_p34_den K) s w) ((s13_p38_den K) s w)
theorem s13_p39_ok (K : Value → World → Prop) (s : Nat → Value) (w : World) (h : s13_p39 K (s 0) (s 3) (s 4) (s 11) (s 240) w) : Tr (s13_p39_den K s w) :=
  tr_cond (v := ev s (.tmp 240)) (a := (fun s w => s13_p34 K (s 0) (s 3) (s 4) w) s w) (a' := (s13_p34_den K) s w) (b := (fun s w => s13_p38 K (s 0) (s 3) (s 4) (s 11) w) s w) (b' := (s13_p38_den K) s w) (p := s13_p39 K (s 0) (s 3) (s 4) (s 11) (s 240) w) (q := s13_p39_den K s w) ((fun s w h => s13_p34_ok K s w @h) s w) ((fun s w h => s13_p38_ok K s w @h) s w) (by kernel_rfl) (by kernel_rfl) @h
def s13_p40 (K : Value → World → Prop) (t0 t3 t4 t11 : Value) (w : World) : Prop :=
  boI .eql t11 (.int .i64 13) (fun t241 w =>
  s13_p39 K t0 t3 t4 t11 t241 w) w
def s13_p40_den (K : Value → World → Prop) : (Nat → Value) → World → Prop := denL Try.prog [(cd (Try.f13.body.getD .skip) [1, 0, 1, 0, 1, 1, 1, 1, 1, 1, 1, 1, 1, 1, 1, 1, 1, 1, 1, 1, 1, 1, 1, 1, 1, 1, 1, 1, 1, 1, 0])] (s13_p39_den K) (fun i => (bif Nat.beq i 0 then (s13_p1_den K) else (fun _ _ => False))) (s13_R K)
theorem s13_p40_ok (K : Value → World → Prop) (s : Nat → Value) (w : World) (h : s13_p40 K (s 0) (s 3) (s 4) (s 11) w) : Tr (s13_p40_den K s w) :=
  tr_simple (P := Try.prog) (codes := [(cd (Try.f13.body.getD .skip) [1, 0, 1, 0, 1, 1, 1, 1, 1, 1, 1, 1, 1, 1, 1, 1, 1, 1, 1, 1, 1, 1, 1, 1, 1, 1, 1, 1, 1, 1, 0])]) (N := (fun s w => s13_p39 K (s 0) (s 3) (s 4) (s 11) (s 240) w)) (N' := (s13_p39_den K)) (X := (fun i => (bif Nat.beq i 0 then (fun s w => s13_p1 K (s 4) w) else (fun _ _ => False)))) (X' := (fun i => (bif Nat.beq i 0 then (s13_p1_den K) else (fun _ _ => False)))) (R := s13_R K) (s := s) (w := w) (p := s13_p40 K (s 0) (s 3) (s 4) (s 11) w) (q := s13_p40_den K s w) (fun s w h => s13_p39_ok K s w @h) (fun i => (tr_bif (fun s w h => s13_p1_ok K s w @h) tr_id)) (by kernel_rfl) (by kernel_rfl) @h
def s13_p41 (K : Value → World → Prop) (t0 t3 t4 t11 t218 : Value) (w : World) : Prop :=
  ifb t218
  (s13_p32 K t0 t3 t4 w)
  (s13_p40 K t0 t3 t4 t11 w)
def s13_p41_den (K : Value → World → Prop) : (Nat → Value) → World → Prop := fun s w => ifb (ev s (.tmp 218)) ((s13_p32_den K) s w) ((s13_p40_den K) s w)
theorem s13_p41_ok (K : Value → World → Prop) (s : Nat → Value) (w : World) (h : s13_p41 K (s 0) (s 3) (s 4) (s 11) (s 218) w) : Tr (s13_p41_den K s w) :=
  tr_cond (v := ev s (.tmp 218)) (a := (fun s w => s13_p32 K (s 0) (s 3) (s 4) w) s w) (a' := (s13_p32_den K) s w) (b := (fun s w => s13_p40 K (s 0) (s 3) (s 4) (s 11) w) s w) (b' := (s13_p40_den K) s w) (p := s13_p41 K (s 0) (s 3) (s 4) (s 11) (s 218) w) (q := s13_p41_den K s w) ((fun s w h => s13_p32_ok K s w @h) s w) ((fun s w h => s13_p40_ok K s w @h) s w) (by kernel_rfl) (by kernel_rfl) @h
def s13_p42 (K : Value → World → Prop) (t0 t3 t4 t11 : Value) (w : World) : Prop :=
  boI .eql t11 (.int .i64 12) (fun t219 w =>
  s13_p41 K t0 t3 t4 t11 t219 w) w
def s13_p42_den (K : Value → World → Prop) : (Nat → Value) → World → Prop := denL Try.prog [(cd (Try.f13.body.getD .skip) [1, 0, 1, 0, 1, 1, 1, 1, 1, 1, 1, 1, 1, 1, 1, 1, 1, 1, 1, 1, 1, 1, 1, 1, 1, 1, 1, 1, 0])] (s13_p41_den K) (fun i => (bif Nat.beq i 0 then (s13_p1_den K) else (fun _ _ => False))) (s13_R K)
theorem s13_p42_ok (K : Value → World → Prop) (s : Nat → Value) (w : World) (h : s13_p42 K (s 0) (s 3) (s 4) (s 11) w) : Tr (s13_p42_den K s w) :=
  tr_simple (P := Try.prog) (codes := [(cd (Try.f13.body.getD .skip) [1, 0, 1, 0, 1, 1, 1, 1, 1, 1, 1, 1, 1, 1, 1, 1, 1, 1, 1, 1, 1, 1, 1, 1, 1, 1, 1, 1, 0])]) (N := (fun s w => s13_p41 K (s 0) (s 3) (s 4) (s 11) (s 218) w)) (N' := (s13_p41_den K)) (X := (fun i => (bif Nat.beq i 0 then (fun s w => s13_p1 K (s 4) w) else (fun _ _ => False)))) (X' := (fun i => (bif Nat.beq i 0 then (s13_p1_den K) else (fun _ _ => False)))) (R := s13_R K) (s := s) (w := w) (p := s13_p42 K (s 0) (s 3) (s 4) (s 11) w) (q := s13_p42_den K s w) (fun s w h => s13_p41_ok K s w @h) (fun i => (tr_bif (fun s w h => s13_p1_ok K s w @h) tr_id)) (by kernel_rfl) (by kernel_rfl) @h
def s13_p43 (K : Value → World → Prop) (t0 t3 t4 t11 t206 : Value) (w : World) : Prop :=
  ifb t206
  (s13_p29 K t0 t4 w)
  (s13_p42 K t0 t3 t4 t11 w)
def s13_p43_den (K : Value → World → Prop) : (Nat → Value) → World → Prop := fun s w => ifb (ev s (.tmp 206)) ((s13_p29_den K) s w) ((s13_p42_den K) s w)
theorem s13_p43_ok (K : Value → World → Prop) (s : Nat → Value) (w : World) (h : s13_p43 K (s 0) (s 3) (s 4) (s 11) (s 206) w) : Tr (s13_p43_den K s w) :=
  tr_cond (v := ev s (.tmp 206)) (a := (fun s w => s13_p29 K (s 0) (s 4) w) s w) (a' := (s13_p29_den K) s w) (b := (fun s w => s13_p42 K (s 0) (s 3) (s 4) (s 11) w) s w) (b' := (s13_p42_den K) s w) (p := s13_p43 K (s 0) (s 3) (s 4) (s 11) (s 206) w) (q := s13_p43_den K s w) ((fun s w h => s13_p29_ok K s w @h) s w) ((fun s w h => s13_p42_ok K s w @h) s w) (by kernel_rfl) (by kernel_rfl) @h
def s13_p44 (K : Value → World → Prop) (t0 t3 t4 t11 : Value) (w : World) : Prop :=
  boI .eql t11 (.int .i64 11) (fun t207 w =>
  s13_p43 K t0 t3 t4 t11 t207 w) w
def s13_p44_den (K : Value → World → Prop) : (Nat → Value) → World → Prop := denL Try.prog [(cd (Try.f13.body.getD .skip) [1, 0, 1, 0, 1, 1, 1, 1, 1, 1, 1, 1, 1, 1, 1, 1, 1, 1, 1, 1, 1, 1, 1, 1, 1, 1, 0])] (s13_p43_den K) (fun i => (bif Nat.beq i 0 then (s13_p1_den K) else (fun _ _ => False))) (s13_R K)
theorem s13_p44_ok (K : Value → World → Prop) (s : Nat → Value) (w : World) (h : s13_p44 K (s 0) (s 3) (s 4) (s 11) w) : Tr (s13_p44_den K s w) :=
  tr_simple (P := Try.prog) (codes := [(cd (Try.f13.body.getD .skip) [1, 0, 1, 0, 1, 1, 1, 1, 1, 1, 1, 1, 1, 1, 1, 1, 1, 1, 1, 1, 1, 1, 1, 1, 1, 1, 0])]) (N := (fun s w => s13_p43 K (s 0) (s 3) (s 4) (s 11) (s 206) w)) (N' := (s13_p43_den K)) (X := (fun i => (bif Nat.beq i 0 then (fun s w => s13_p1 K (s 4) w) else (fun _ _ => False)))) (X' := (fun i => (bif Nat.beq i 0 then (s13_p1_den K) else (fun _ _ => False)))) (R := s13_R K) (s := s) (w := w) (p := s13_p44 K (s 0) (s 3) (s 4) (s 11) w) (q := s13_p44_den K s w) (fun s w h => s13_p43_ok K s w @h) (fun i => (tr_bif (fun s w h => s13_p1_ok K s w @h) tr_id)) (by kernel_rfl) (by kernel_rfl) @h
def s13_p45 (K : Value → World → Prop) (t0 t3 t4 t11 t176 : Value) (w : World) : Prop :=
  ifb t176
  (s13_p28 K t0 t3 t4 w)
  (s13_p44 K t0 t3 t4 t11 w)
def s13_p45_den (K : Value → World → Prop) : (Nat → Value) → World → Prop := fun s w => ifb (ev s (.tmp 176)) ((s13_p28_den K) s w) ((s13_p44_den K) s w)
theorem s13_p45_ok (K : Value → World → Prop) (s : Nat → Value) (w : World) (h : s13_p45 K (s 0) (s 3) (s 4) (s 11) (s 176) w) : Tr (s13_p45_den K s w) :=
  tr_cond (v := ev s (.tmp 176)) (a := (fun s w => s13_p28 K (s 0) (s 3) (s 4) w) s w) (a' := (s13_p28_den K) s w) (b := (fun s w => s13_p44 K (s 0) (s 3) (s 4) (s 11) w) s w) (b' := (s13_p44_den K) s w) (p := s13_p45 K (s 0) (s 3) (s 4) (s 11) (s 176) w) (q := s13_p45_den K s w) ((fun s w h => s13_p28_ok K s w @h) s w) ((fun s w h => s13_p44_ok K s w @h) s w) (by kernel_rfl) (by kernel_rfl) @h
def s13_p46 (K : Value → World → Prop) (t0 t3 t4 t11 : Value) (w : World) : Prop :=
  boI .eql t11 (.int .i64 10) (fun t177 w =>
  s13_p45 K t0 t3 t4 t11 t177 w) w
def s13_p46_den (K : Value → World → Prop) : (Nat → Value) → World → Prop := denL Try.prog [(cd (Try.f13.body.getD .skip) [1, 0, 1, 0, 1, 1, 1, 1, 1, 1, 1, 1, 1, 1, 1, 1, 1, 1, 1, 1, 1, 1, 1, 1, 0])] (s13_p45_den K) (fun i => (bif Nat.beq i 0 then (s13_p1_den K) else (fun _ _ => False))) (s13_R K)
theorem s13_p46_ok (K : Value → World → Prop) (s : Nat → Value) (w : World) (h : s13_p46 K (s 0) (s 3) (s 4) (s 11) w) : Tr (s13_p46_den K s w) :=
  tr_simple (P := Try.prog) (codes := [(cd (Try.f13.body.getD .skip) [1, 0, 1, 0, 1, 1, 1, 1, 1, 1, 1, 1, 1, 1, 1, 1, 1, 1, 1, 1, 1, 1, 1, 1, 0])]) (N := (fun s w => s13_p45 K (s 0) (s 3) (s 4) (s 11) (s 176) w)) (N' := (s13_p45_den K)) (X := (fun i => (bif Nat.beq i 0 then (fun s w => s13_p1 K (s 4) w) else (fun _ _ => False)))) (X' := (fun i => (bif Nat.beq i 0 then (s13_p1_den K) else (fun _ _ => False)))) (R := s13_R K) (s := s) (w := w) (p := s13_p46 K (s 0) (s 3) (s 4) (s 11) w) (q := s13_p46_den K s w) (fun s w h => s13_p45_ok K s w @h) (fun i => (tr_bif (fun s w h => s13_p1_ok K s w @h) tr_id)) (by kernel_rfl) (by kernel_rfl) @h
def s13_p47 (K : Value → World → Prop) (t0 t3 t4 t11 t166 : Value) (w : World) : Prop :=
  ifb t166
  (s13_p25 K t0 t3 t4 w)
  (s13_p46 K t0 t3 t4 t11 w)
def s13_p47_den (K : Value → World → Prop) : (Nat → Value) → World → Prop := fun s w => ifb (ev s (.tmp 166)) ((s13_p25_den K) s w) ((s13_p46_den K) s w)
theorem s13_p47_ok (K : Value → World → Prop) (s : Nat → Value) (w : World) (h : s13_p47 K (s 0) (s 3) (s 4) (s 11) (s 166) w) : Tr (s13_p47_den K s w) :=
  tr_cond (v := ev s (.tmp 166)) (a := (fun s w => s13_p25 K (s 0) (s 3) (s 4) w) s w) (a' := (s13_p25_den K) s w) (b := (fun s w => s13_p46 K (s 0) (s 3) (s 4) (s 11) w) s w) (b' := (s13_p46_den K) s w) (p := s13_p47 K (s 0) (s 3) (s 4) (s 11) (s 166) w) (q := s13_p47_den K s w) ((fun s w h => s13_p25_ok K s w @h) s w) ((fun s w h => s13_p46_ok K s w @h) s w) (by kernel_rfl) (by kernel_rfl) @h
def s13_p48 (K : Value → World → Prop) (t0 t3 t4 t11 : Value) (w : World) : Prop :=
  boI .eql t11 (.int .i64 9) (fun t167 w =>
  s13_p47 K t0 t3 t4 t11 t167 w) w
def s13_p48_den (K : Value → World → Prop) : (Nat → Value) → World → Prop := denL Try.prog [(cd (Try.f13.body.getD .skip) [1, 0, 1, 0, 1, 1, 1, 1, 1, 1, 1, 1, 1, 1, 1, 1, 1, 1, 1, 1, 1, 1, 0])] (s13_p47_den K) (fun i => (bif Nat.beq i 0 then (s13_p1_den K) else (fun _ _ => False))) (s13_R K)
theorem s13_p48_ok (K : Value → World → Prop) (s : Nat → Value) (w : World) (h : s13_p48 K (s 0) (s 3) (s 4) (s 11) w) : Tr (s13_p48_den K s w) :=
  tr_simple (P := Try.prog) (codes := [(cd (Try.f13.body.getD .skip) [1, 0, 1, 0, 1, 1, 1, 1, 1, 1, 1, 1, 1, 1, 1, 1, 1, 1, 1, 1, 1, 1, 0])]) (N := (fun s w => s13_p47 K (s 0) (s 3) (s 4) (s 11) (s 166) w)) (N' := (s13_p47_den K)) (X := (fun i => (bif Nat.beq i 0 then (fun s w => s13_p1 K (s 4) w) else (fun _ _ => False)))) (X' := (fun i => (bif Nat.beq i 0 then (s13_p1_den K) else (fun _ _ => False)))) (R := s13_R K) (s := s) (w := w) (p := s13_p48 K (s 0) (s 3) (s 4) (s 11) w) (q := s13_p48_den K s w) (fun s w h => s13_p47_ok K s w @h) (fun i => (tr_bif (fun s w h => s13_p1_ok K s w @h) tr_id)) (by kernel_rfl) (by kernel_rfl) @h
def s13_p49 (K : Value → World → Prop) (t0 t3 t4 t11 t151 : Value) (w : World) : Prop :=
  ifb t151
  (s13_p23 K t0 t3 t4 w)
  (s13_p48 K t0 t3 t4 t11 w)
def s13_p49_den (K : Value → World → Prop) : (Nat → Value) → World → Prop := fun s w => ifb (ev s (.tmp 151)) ((s13_p23_den K) s w) ((s13_p48_den K) s w)
theorem s13_p49_ok (K : Value → World → Prop) (s : Nat → Value) (w : World) (h : s13_p49 K (s 0) (s 3) (s 4) (s 11) (s 151) w) : Tr (s13_p49_den K s w) :=
  tr_cond (v := ev s (.tmp 151)) (a := (fun s w => s13_p23 K (s 0) (s 3) (s 4) w) s w) (a' := (s13_p23_den K) s w) (b := (fun s w => s13_p48 K (s 0) (s 3) (s 4) (s 11) w) s w) (b' := (s13_p48_den K) s w) (p := s13_p49 K (s 0) (s 3) (s 4) (s 11) (s 151) w) (q := s13_p49_den K s w) ((fun s w h => s13_p23_ok K s w @h) s w) ((fun s w h => s13_p48_ok K s w @h) s w) (by kernel_rfl) (by kernel_rfl) @h
def s13_p50 (K : Value → World → Prop) (t0 t3 t4 t11 : Value) (w : World) : Prop :=
  boI .eql t11 (.int .i64 8) (fun t152 w =>
  s13_p49 K t0 t3 t4 t11 t152 w) w
def s13_p50_den (K : Value → World → Prop) : (Nat → Value) → World → Prop := denL Try.prog [(cd (Try.f13.body.getD .skip) [1, 0, 1, 0, 1, 1, 1, 1, 1, 1, 1, 1, 1, 1, 1, 1, 1, 1, 1, 1, 0])] (s13_p49_den K) (fun i => (bif Nat.beq i 0 then (s13_p1_den K) else (fun _ _ => False))) (s13_R K)
theorem s13_p50_ok (K : Value → World → Prop) (s : Nat → Value) (w : World) (h : s13_p50 K (s 0) (s 3) (s 4) (s 11) w) : Tr (s13_p50_den K s w) :=
  tr_simple (P := Try.prog) (codes := [(cd (Try.f13.body.getD .skip) [1, 0, 1, 0, 1, 1, 1, 1, 1, 1, 1, 1, 1, 1, 1, 1, 1, 1, 1, 1, 0])]) (N := (fun s w => s13_p49 K (s 0) (s 3) (s 4) (s 11) (s 151) w)) (N' := (s13_p49_den K)) (X := (fun i => (bif Nat.beq i 0 then (fun s w => s13_p1 K (s 4) w) else (fun _ _ => False)))) (X' := (fun i => (bif Nat.beq i 0 then (s13_p1_den K) else (fun _ _ => False)))) (R := s13_R K) (s := s) (w := w) (p := s13_p50 K (s 0) (s 3) (s 4) (s 11) w) (q := s13_p50_den K s w) (fun s w h => s13_p49_ok K s w @h) (fun i => (tr_bif (fun s w h => s13_p1_ok K s w @h) tr_id)) (by kernel_rfl) (by kernel_rfl) @h
def s13_p51 (K : Value → World → Prop) (t0 t3 t4 t11 t141 : Value) (w : World) : Prop :=
  ifb t141
  (s13_p21 K t0 t3 t4 w)
  (s13_p50 K t0 t3 t4 t11 w)
def s13_p51_den (K : Value → World → Prop) : (Nat → Value) → World → Prop := fun s w => ifb (ev s (.tmp 141)) ((s13_p21_den K) s w) ((s13_p50_den K) s w)
theorem s13_p51_ok (K : Value → World → Prop) (s : Nat → Value) (w : World) (h : s13_p51 K (s 0) (s 3) (s 4) (s 11) (s 141) w) : Tr (s13_p51_den K s w) :=
  tr_cond (v := ev s (.tmp 141)) (a := (fun s w => s13_p21 K (s 0) (s 3) (s 4) w) s w) (a' := (s13_p21_den K) s w) (b := (fun s w => s13_p50 K (s 0) (s 3) (s 4) (s 11) w) s w) (b' := (s13_p50_den K) s w) (p := s13_p51 K (s 0) (s 3) (s 4) (s 11) (s 141) w) (q := s13_p51_den K s w) ((fun s w h => s13_p21_ok K s w @h) s w) ((fun s w h => s13_p50_ok K s w @h) s w) (by kernel_rfl) (by kernel_rfl) @h
def s13_p52 (K : Value → World → Prop) (t0 t3 t4 t11 : Value) (w : World) : Prop :=
  boI .eql t11 (.int .i64 7) (fun t142 w =>
  s13_p51 K t0 t3 t4 t11 t142 w) w
def s13_p52_den (K : Value → World → Prop) : (Nat → Value) → World → Prop := denL Try.prog [(cd (Try.f13.body.getD .skip) [1, 0, 1, 0, 1, 1, 1, 1, 1, 1, 1, 1, 1, 1, 1, 1, 1, 1, 0])] (s13_p51_den K) (fun i => (bif Nat.beq i 0 then (s13_p1_den K) else (fun _ _ => False))) (s13_R K)
theorem s13_p52_ok (K : Value → World → Prop) (s : Nat → Value) (w : World) (h : s13_p52 K (s 0) (s 3) (s 4) (s 11) w) : Tr (s13_p52_den K s w) :=
  tr_simple (P := Try.prog) (codes := [(cd (Try.f13.body.getD .skip) [1, 0, 1, 0, 1, 1, 1, 1, 1, 1, 1, 1, 1, 1, 1, 1, 1, 1, 0])]) (N := (fun s w => s13_p51 K (s 0) (s 3) (s 4) (s 11) (s 141) w)) (N' := (s13_p51_den K)) (X := (fun i => (bif Nat.beq i 0 then (fun s w => s13_p1 K (s 4) w) else (fun _ _ => False)))) (X' := (fun i => (bif Nat.beq i 0 then (s13_p1_den K) else (fun _ _ => False)))) (R := s13_R K) (s := s) (w := w) (p := s13_p52 K (s 0) (s 3) (s 4) (s 11) w) (q := s13_p52_den K s w) (fun s w h => s13_p51_ok K s w @h) (fun i => (tr_bif (fun s w h => s13_p1_ok K s w @h) tr_id)) (by kernel_rfl) (by kernel_rfl) @h
def s13_p53 (K : Value → World → Prop) (t0 t3 t4 t11 t131 : Value) (w : World) : Prop :=
  ifb t131
  (s13_p19 K t0 t3 t4 w)
  (s13_p52 K t0 t3 t4 t11 w)
def s13_p53_den (K : Value → World → Prop) : (Nat → Value) → World → Prop := fun s w => ifb (ev s (.tmp 131)) ((s13_p19_den K) s w) ((s13_p52_den K) s w)
theorem s13_p53_ok (K : Value → World → Prop) (s : Nat → Value) (w : World) (h : s13_p53 K (s 0) (s 3) (s 4) (s 11) (s 131) w) : Tr (s13_p53_den K s w) :=
  tr_cond (v := ev s (.tmp 131)) (a := (fun s w => s13_p19 K (s 0) (s 3) (s 4) w) s w) (a' := (s13_p19_den K) s w) (b := (fun s w => s13_p52 K (s 0) (s 3) (s 4) (s 11) w) s w) (b' := (s13_p52_den K) s w) (p := s13_p53 K (s 0) (s 3) (s 4) (s 11) (s 131) w) (q := s13_p53_den K s w) ((fun s w h => s13_p19_ok K s w @h) s w) ((fun s w h => s13_p52_ok K s w @h) s w) (by kernel_rfl) (by kernel_rfl) @h
def s13_p54 (K : Value → World → Prop) (t0 t3 t4 t11 : Value) (w : World) : Prop :=
  boI .eql t11 (.int .i64 6) (fun t132 w =>
  s13_p53 K t0 t3 t4 t11 t132 w) w
def s13_p54_den (K : Value → World → Prop) : (Nat → Value) → World → Prop := denL Try.prog [(cd (Try.f13.body.getD .skip) [1, 0, 1, 0, 1, 1, 1, 1, 1, 1, 1, 1, 1, 1, 1, 1, 0])] (s13_p53_den K) (fun i => (bif Nat.beq i 0 then (s13_p1_den K) else (fun _ _ => False))) (s13_R K)
theorem s13_p54_ok (K : Value → World → Prop) (s : Nat → Value) (w : World) (h : s13_p54 K (s 0) (s 3) (s 4) (s 11) w) : Tr (s13_p54_den K s w) :=
  tr_simple (P := Try.prog) (codes := [(cd (Try.f13.body.getD .skip) [1, 0, 1, 0, 1, 1, 1, 1, 1, 1, 1, 1, 1, 1, 1, 1, 0])]) (N := (fun s w => s13_p53 K (s 0) (s 3) (s 4) (s 11) (s 131) w)) (N' := (s13_p53_den K)) (X := (fun i => (bif Nat.beq i 0 then (fun s w => s13_p1 K (s 4) w) else (fun _ _ => False)))) (X' := (fun i => (bif Nat.beq i 0 then (s13_p1_den K) else (fun _ _ => False)))) (R := s13_R K) (s := s) (w := w) (p := s13_p54 K (s 0) (s 3) (s 4) (s 11) w) (q := s13_p54_den K s w) (fun s w h => s13_p53_ok K s w @h) (fun i => (tr_bif (fun s w h => s13_p1_ok K s w @h) tr_id)) (by kernel_rfl) (by kernel_rfl) @h
def s13_p55 (K : Value → World → Prop) (t0 t3 t4 t11 t121 : Value) (w : World) : Prop :=
  ifb t121
  (s13_p17 K t0 t3 t4 w)
  (s13_p54 K t0 t3 t4 t11 w)
def s13_p55_den (K : Value → World → Prop) : (Nat → Value) → World → Prop := fun s w => ifb (ev s (.tmp 121)) ((s13_p17_den K) s w) ((s13_p54_den K) s w)
theorem s13_p55_ok (K : Value → World → Prop) (s : Nat → Value) (w : World) (h : s13_p55 K (s 0) (s 3) (s 4) (s 11) (s 121) w) : Tr (s13_p55_den K s w) :=
  tr_cond (v := ev s (.tmp 121)) (a := (fun s w => s13_p17 K (s 0) (s 3) (s 4) w) s w) (a' := (s13_p17_den K) s w) (b := (fun s w => s13_p54 K (s 0) (s 3) (s 4) (s 11) w) s w) (b' := (s13_p54_den K) s w) (p := s13_p55 K (s 0) (s 3) (s 4) (s 11) (s 121) w) (q := s13_p55_den K s w) ((fun s w h => s13_p17_ok K s w @h) s w) ((fun s w h => s13_p54_ok K s w @h) s w) (by kernel_rfl) (by kernel_rfl) @h
def s13_p56 (K : Value → World → Prop) (t0 t3 t4 t11 : Value) (w : World) : Prop :=
  boI .eql t11 (.int .i64 5) (fun t122 w =>
  s13_p55 K t0 t3 t4 t11 t122 w) w
def s13_p56_den (K : Value → World → Prop) : (Nat → Value) → World → Prop := denL Try.prog [(cd (Try.f13.body.getD .skip) [1, 0, 1, 0, 1, 1, 1, 1, 1, 1, 1, 1, 1, 1, 0])] (s13_p55_den K) (fun i => (bif Nat.beq i 0 then (s13_p1_den K) else (fun _ _ => False))) (s13_R K)
theorem s13_p56_ok (K : Value → World → Prop) (s : Nat → Value) (w : World) (h : s13_p56 K (s 0) (s 3) (s 4) (s 11) w) : Tr (s13_p56_den K s w) :=
  tr_simple (P := Try.prog) (codes := [(cd (Try.f13.body.getD .skip) [1, 0, 1, 0, 1, 1, 1, 1, 1, 1, 1, 1, 1, 1, 0])]) (N := (fun s w => s13_p55 K (s 0) (s 3) (s 4) (s 11) (s 121) w)) (N' := (s13_p55_den K)) (X := (fun i => (bif Nat.beq i 0 then (fun s w => s13_p1 K (s 4) w) else (fun _ _ => False)))) (X' := (fun i => (bif Nat.beq i 0 then (s13_p1_den K) else (fun _ _ => False)))) (R := s13_R K) (s := s) (w := w) (p := s13_p56 K (s 0) (s 3) (s 4) (s 11) w) (q := s13_p56_den K s w) (fun s w h => s13_p55_ok K s w @h) (fun i => (tr_bif (fun s w h => s13_p1_ok K s w @h) tr_id)) (by kernel_rfl) (by kernel_rfl) @h
def s13_p57 (K : Value → World → Prop) (t0 t3 t4 t11 t111 : Value) (w : World) : Prop :=
  ifb t111
  (s13_p15 K t0 t3 t4 w)
  (s13_p56 K t0 t3 t4 t11 w)
def s13_p57_den (K : Value → World → Prop) : (Nat → Value) → World → Prop := fun s w => ifb (ev s (.tmp 111)) ((s13_p15_den K) s w) ((s13_p56_den K) s w)
theorem s13_p57_ok (K : Value → World → Prop) (s : Nat → Value) (w : World) (h : s13_p57 K (s 0) (s 3) (s 4) (s 11) (s 111) w) : Tr (s13_p57_den K s w) :=
  tr_cond (v := ev s (.tmp 111)) (a := (fun s w => s13_p15 K (s 0) (s 3) (s 4) w) s w) (a' := (s13_p15_den K) s w) (b := (fun s w => s13_p56 K (s 0) (s 3) (s 4) (s 11) w) s w) (b' := (s13_p56_den K) s w) (p := s13_p57 K (s 0) (s 3) (s 4) (s 11) (s 111) w) (q := s13_p57_den K s w) ((fun s w h => s13_p15_ok K s w @h) s w) ((fun s w h => s13_p56_ok K s w @h) s w) (by kernel_rfl) (by kernel_rfl) @h
def s13_p58 (K : Value → World → Prop) (t0 t3 t4 t11 : Value) (w : World) : Prop :=
  boI .eql t11 (.int .i64 4) (fun t112 w =>
  s13_p57 K t0 t3 t4 t11 t112 w) w
def s13_p58_den (K : Value → World → Prop) : (Nat → Value) → World → Prop := denL Try.prog [(cd (Try.f13.body.getD .skip) [1, 0, 1, 0, 1, 1, 1, 1, 1, 1, 1, 1, 0])] (s13_p57_den K) (fun i => (bif Nat.beq i 0 then (s13_p1_den K) else (fun _ _ => False))) (s13_R K)
theorem s13_p58_ok (K : Value → World → Prop) (s : Nat → Value) (w : World) (h : s13_p58 K (s 0) (s 3) (s 4) (s 11) w) : Tr (s13_p58_den K s w) :=
  tr_simple (P := Try.prog) (codes := [(cd (Try.f13.body.getD .skip) [1, 0, 1, 0, 1, 1, 1, 1, 1, 1, 1, 1, 0])]) (N := (fun s w => s13_p57 K (s 0) (s 3) (s 4) (s 11) (s 111) w)) (N' := (s13_p57_den K)) (X := (fun i => (bif Nat.beq i 0 then (fun s w => s13_p1 K (s 4) w) else (fun _ _ => False)))) (X' := (fun i => (bif Nat.beq i 0 then (s13_p1_den K) else (fun _ _ => False)))) (R := s13_R K) (s := s) (w := w) (p := s13_p58 K (s 0) (s 3) (s 4) (s 11) w) (q := s13_p58_den K s w) (fun s w h => s13_p57_ok K s w @h) (fun i => (tr_bif (fun s w h => s13_p1_ok K s w @h) tr_id)) (by kernel_rfl) (by kernel_rfl) @h
def s13_p59 (K : Value → World → Prop) (t0 t3 t4 t11 t89 : Value) (w : World) : Prop :=
  ifb t89
  (s13_p13 K t0 t3 t4 w)
  (s13_p58 K t0 t3 t4 t11 w)
def s13_p59_den (K : Value → World → Prop) : (Nat → Value) → World → Prop := fun s w => ifb (ev s (.tmp 89)) ((s13_p13_den K) s w) ((s13_p58_den K) s w)
theorem s13_p59_ok (K : Value → World → Prop) (s : Nat → Value) (w : World) (h : s13_p59 K (s 0) (s 3) (s 4) (s 11) (s 89) w) : Tr (s13_p59_den K s w) :=
  tr_cond (v := ev s (.tmp 89)) (a := (fun s w => s13_p13 K (s 0) (s 3) (s 4) w) s w) (a' := (s13_p13_den K) s w) (b := (fun s w => s13_p58 K (s 0) (s 3) (s 4) (s 11) w) s w) (b' := (s13_p58_den K) s w) (p := s13_p59 K (s 0) (s 3) (s 4) (s 11) (s 89) w) (q := s13_p59_den K s w) ((fun s w h => s13_p13_ok K s w @h) s w) ((fun s w h => s13_p58_ok K s w @h) s w) (by kernel_rfl) (by kernel_rfl) @h
def s13_p60 (K : Value → World → Prop) (t0 t3 t4 t11 : Value) (w : World) : Prop :=
  boI .eql t11 (.int .i64 3) (fun t90 w =>
  s13_p59 K t0 t3 t4 t11 t90 w) w
def s13_p60_den (K : Value → World → Prop) : (Nat → Value) → World → Prop := denL Try.prog [(cd (Try.f13.body.getD .skip) [1, 0, 1, 0, 1, 1, 1, 1, 1, 1, 0])] (s13_p59_den K) (fun i => (bif Nat.beq i 0 then (s13_p1_den K) else (fun _ _ => False))) (s13_R K)
theorem s13_p60_ok (K : Value → World → Prop) (s : Nat → Value) (w : World) (h : s13_p60 K (s 0) (s 3) (s 4) (s 11) w) : Tr (s13_p60_den K s w) :=
  tr_simple (P := Try.prog) (codes := [(cd (Try.f13.body.getD .skip) [1, 0, 1, 0, 1, 1, 1, 1, 1, 1, 0])]) (N := (fun s w => s13_p59 K (s 0) (s 3) (s 4) (s 11) (s 89) w)) (N' := (s13_p59_den K)) (X := (fun i => (bif Nat.beq i 0 then (fun s w => s13_p1 K (s 4) w) else (fun _ _ => False)))) (X' := (fun i => (bif Nat.beq i 0 then (s13_p1_den K) else (fun _ _ => False)))) (R := s13_R K) (s := s) (w := w) (p := s13_p60 K (s 0) (s 3) (s 4) (s 11) w) (q := s13_p60_den K s w) (fun s w h => s13_p59_ok K s w @h) (fun i => (tr_bif (fun s w h => s13_p1_ok K s w @h) tr_id)) (by kernel_rfl) (by kernel_rfl) @h
def s13_p61 (K : Value → World → Prop) (t0 t3 t4 t11 t54 : Value) (w : World) : Prop :=
  ifb t54
  (s13_p10 K t0 t3 t4 w)
  (s13_p60 K t0 t3 t4 t11 w)
def s13_p61_den (K : Value → World → Prop) : (Nat → Value) → World → Prop := fun s w => ifb (ev s (.tmp 54)) ((s13_p10_den K) s w) ((s13_p60_den K) s w)
theorem s13_p61_ok (K : Value → World → Prop) (s : Nat → Value) (w : World) (h : s13_p61 K (s 0) (s 3) (s 4) (s 11) (s 54) w) : Tr (s13_p61_den K s w) :=
  tr_cond (v := ev s (.tmp 54)) (a := (fun s w => s13_p10 K (s 0) (s 3) (s 4) w) s w) (a' := (s13_p10_den K) s w) (b := (fun s w => s13_p60 K (s 0) (s 3) (s 4) (s 11) w) s w) (b' := (s13_p60_den K) s w) (p := s13_p61 K (s 0) (s 3) (s 4) (s 11) (s 54) w) (q := s13_p61_den K s w) ((fun s w h => s13_p10_ok K s w @h) s w) ((fun s w h => s13_p60_ok K s w @h) s w) (by kernel_rfl) (by kernel_rfl) @h
def s13_p62 (K : Value → World → Prop) (t0 t3 t4 t11 : Value) (w : World) : Prop :=
  boI .eql t11 (.int .i64 2) (fun t55 w =>
  s13_p61 K t0 t3 t4 t11 t55 w) w
def s13_p62_den (K : Value → World → Prop) : (Nat → Value) → World → Prop := denL Try.prog [(cd (Try.f13.body.getD .skip) [1, 0, 1, 0, 1, 1, 1, 1, 0])] (s13_p61_den K) (fun i => (bif Nat.beq i 0 then (s13_p1_den K) else (fun _ _ => False))) (s13_R K)
theorem s13_p62_ok (K : Value → World → Prop) (s : Nat → Value) (w : World) (h : s13_p62 K (s 0) (s 3) (s 4) (s 11) w) : Tr (s13_p62_den K s w) :=
  tr_simple (P := Try.prog) (codes := [(cd (Try.f13.body.getD .skip) [1, 0, 1, 0, 1, 1, 1, 1, 0])]) (N := (fun s w => s13_p61 K (s 0) (s 3) (s 4) (s 11) (s 54) w)) (N' := (s13_p61_den K)) (X := (fun i => (bif Nat.beq i 0 then (fun s w => s13_p1 K (s 4) w) else (fun _ _ => False)))) (X' := (fun i => (bif Nat.beq i 0 then (s13_p1_den K) else (fun _ _ => False)))) (R := s13_R K) (s := s) (w := w) (p := s13_p62 K (s 0) (s 3) (s 4) (s 11) w) (q := s13_p62_den K s w) (fun s w h => s13_p61_ok K s w @h) (fun i => (tr_bif (fun s w h => s13_p1_ok K s w @h) tr_id)) (by kernel_rfl) (by kernel_rfl) @h
def s13_p63 (K : Value → World → Prop) (t0 t3 t4 t11 t21 : Value) (w : World) : Prop :=
  ifb t21
  (s13_p6 K t0 t3 t4 w)
  (s13_p62 K t0 t3 t4 t11 w)
def s13_p63_den (K : Value → World → Prop) : (Nat → Value) → World → Prop := fun s w => ifb (ev s (.tmp 21)) ((s13_p6_den K) s w) ((s13_p62_den K) s w)
theorem s13_p63_ok (K : Value → World → Prop) (s : Nat → Value) (w : World) (h : s13_p63 K (s 0) (s 3) (s 4) (s 11) (s 21) w) : Tr (s13_p63_den K s w) :=
  tr_cond (v := ev s (.tmp 21)) (a := (fun s w => s13_p6 K (s 0) (s 3) (s 4) w) s w) (a' := (s13_p6_den K) s w) (b := (fun s w => s13_p62 K (s 0) (s 3) (s 4) (s 11) w) s w) (b' := (s13_p62_den K) s w) (p := s13_p63 K (s 0) (s 3) (s 4) (s 11) (s 21) w) (q := s13_p63_den K s w) ((fun s w h => s13_p6_ok K s w @h) s w) ((fun s w h => s13_p62_ok K s w @h) s w) (by kernel_rfl) (by kernel_rfl) @h
def s13_p64 (K : Value → World → Prop) (t0 t3 t4 t11 : Value) (w : World) : Prop :=
  boI .eql t11 (.int .i64 1) (fun t22 w =>
  s13_p63 K t0 t3 t4 t11 t22 w) w
def s13_p64_den (K : Value → World → Prop) : (Nat → Value) → World → Prop := denL Try.prog [(cd (Try.f13.body.getD .skip) [1, 0, 1, 0, 1, 1, 0])] (s13_p63_den K) (fun i => (bif Nat.beq i 0 then (s13_p1_den K) else (fun _ _ => False))) (s13_R K)
theorem s13_p64_ok (K : Value → World → Prop) (s : Nat → Value) (w : World) (h : s13_p64 K (s 0) (s 3) (s 4) (s 11) w) : Tr (s13_p64_den K s w) :=
  tr_simple (P := Try.prog) (codes := [(cd (Try.f13.body.getD .skip) [1, 0, 1, 0, 1, 1, 0])]) (N := (fun s w => s13_p63 K (s 0) (s 3) (s 4) (s 11) (s 21) w)) (N' := (s13_p63_den K)) (X := (fun i => (bif Nat.beq i 0 then (fun s w => s13_p1 K (s 4) w) else (fun _ _ => False)))) (X' := (fun i => (bif Nat.beq i 0 then (s13_p1_den K) else (fun _ _ => False)))) (R := s13_R K) (s := s) (w := w) (p := s13_p64 K (s 0) (s 3) (s 4) (s 11) w) (q := s13_p64_den K s w) (fun s w h => s13_p63_ok K s w @h) (fun i => (tr_bif (fun s w h => s13_p1_ok K s w @h) tr_id)) (by kernel_rfl) (by kernel_rfl) @h
def s13_p65 (K : Value → World → Prop) (t0 t3 t4 t11 t12 : Value) (w : World) : Prop :=
  ifb t12
  (s13_p2 K t0 t3 t4 w)
  (s13_p64 K t0 t3 t4 t11 w)
def s13_p65_den (K : Value → World → Prop) : (Nat → Value) → World → Prop := fun s w => ifb (ev s (.tmp 12)) ((s13_p2_den K) s w) ((s13_p64_den K) s w)
theorem s13_p65_ok (K : Value → World → Prop) (s : Nat → Value) (w : World) (h : s13_p65 K (s 0) (s 3) (s 4) (s 11) (s 12) w) : Tr (s13_p65_den K s w) :=
  tr_cond (v := ev s (.tmp 12)) (a := (fun s w => s13_p2 K (s 0) (s 3) (s 4) w) s w) (a' := (s13_p2_den K) s w) (b := (fun s w => s13_p64 K (s 0) (s 3) (s 4) (s 11) w) s w) (b' := (s13_p64_den K) s w) (p := s13_p65 K (s 0) (s 3) (s 4) (s 11) (s 12) w) (q := s13_p65_den K s w) ((fun s w h => s13_p2_ok K s w @h) s w) ((fun s w h => s13_p64_ok K s w @h) s w) (by kernel_rfl) (by kernel_rfl) @h
def s13_p66 (K : Value → World → Prop) (t0 t3 t4 t11 : Value) (w : World) : Prop :=
  boI .eql t11 (.int .i64 0) (fun t13 w =>
  s13_p65 K t0 t3 t4 t11 t13 w) w
def s13_p66_den (K : Value → World → Prop) : (Nat → Value) → World → Prop := denL Try.prog [(cd (Try.f13.body.getD .skip) [1, 0, 1, 0, 0])] (s13_p65_den K) (fun i => (bif Nat.beq i 0 then (s13_p1_den K) else (fun _ _ => False))) (s13_R K)
theorem s13_p66_ok (K : Value → World → Prop) (s : Nat → Value) (w : World) (h : s13_p66 K (s 0) (s 3) (s 4) (s 11) w) : Tr (s13_p66_den K s w) :=
  tr_simple (P := Try.prog) (codes := [(cd (Try.f13.body.getD .skip) [1, 0, 1, 0, 0])]) (N := (fun s w => s13_p65 K (s 0) (s 3) (s 4) (s 11) (s 12) w)) (N' := (s13_p65_den K)) (X := (fun i => (bif Nat.beq i 0 then (fun s w => s13_p1 K (s 4) w) else (fun _ _ => False)))) (X' := (fun i => (bif Nat.beq i 0 then (s13_p1_den K) else (fun _ _ => False)))) (R := s13_R K) (s := s) (w := w) (p := s13_p66 K (s 0) (s 3) (s 4) (s 11) w) (q := s13_p66_den K s w) (fun s w h => s13_p65_ok K s w @h) (fun i => (tr_bif (fun s w h => s13_p1_ok K s w @h) tr_id)) (by kernel_rfl) (by kernel_rfl) @h
def s13_p67 (K : Value → World → Prop) (t0 t1 : Value) (w : World) : Prop :=
  nw 34 (t1).cells (fun t3 w =>
  nw 38 #[(.bool false), (.int .u64 0), (.slice none 0 0)] (fun t4 w =>
  fd 0 t3 (fun t10 w =>
  ld1 t10 (fun t11 w =>
  s13_p66 K t0 t3 t4 t11 w) w) w) w) w
def s13_p67_den (K : Value → World → Prop) : (Nat → Value) → World → Prop := denL Try.prog [(cd (Try.f13.body.getD .skip) [0]), (cd (Try.f13.body.getD .skip) [1, 0, 0])] (s13_p66_den K) (fun i => (fun _ _ => False)) (s13_R K)
theorem s13_p67_ok (K : Value → World → Prop) (s : Nat → Value) (w : World) (h : s13_p67 K (s 0) (s 1) w) : Tr (s13_p67_den K s w) :=
  tr_simple (P := Try.prog) (codes := [(cd (Try.f13.body.getD .skip) [0]), (cd (Try.f13.body.getD .skip) [1, 0, 0])]) (N := (fun s w => s13_p66 K (s 0) (s 3) (s 4) (s 11) w)) (N' := (s13_p66_den K)) (X := (fun i => (fun _ _ => False))) (X' := (fun i => (fun _ _ => False))) (R := s13_R K) (s := s) (w := w) (p := s13_p67 K (s 0) (s 1) w) (q := s13_p67_den K s w) (fun s w h => s13_p66_ok K s w @h) (fun i => tr_id) (by kernel_rfl) (by kernel_rfl) @h
/-- the call, from the text -/
theorem c13 (t0 t1 : Value) {K : Value → World → Prop} {w : World} (h : s13_p67 K t0 t1 w) : cl Try.prog 13 #[t0, t1] K w :=
  calls_of_tr (c := (Try.f13.body.getD .skip)) (fn := Try.f13) (q := s13_p67_den K (st0 #[t0, t1]) w) Try.func13 (by kernel_rfl) (by kernel_rfl) (Nat.le_of_ble_eq_true (by kernel_rfl)) (by kernel_rfl) (by kernel_rfl) (s13_p67_ok K (st0 #[t0, t1]) w @h)

/-! ### function 14 : (*e2e.octetsm.Machine).Step -/
def s14_R (K : Value → World → Prop) (s : Nat → Value) (w : World) : Prop := retv Try.prog s Try.f14.results.toList (fun vs => K (pack vs) w) w
def s14_p1 (K : Value → World → Prop) (t4 : Value) (w : World) : Prop :=
  bdq [(.bool false), (.int .u64 0), (.slice none 0 0)] [] (fun t326 w =>
  stn 3 t4 t326 (fun w =>
  ldn 3 t4 (fun r0 _ =>
  K r0 w) w) w) w
def s14_p1_den (K : Value → World → Prop) : (Nat → Value) → World → Prop := denL Try.prog [(cd (Try.f14.body.getD .skip) [1, 1, 0]), (cd (Try.f14.body.getD .skip) [1, 1, 1])] (fun _ _ => False) (fun i => (fun _ _ => False)) (s14_R K)
theorem s14_p1_ok (K : Value → World → Prop) (s : Nat → Value) (w : World) (h : s14_p1 K (s 4) w) : Tr (s14_p1_den K s w) :=
  tr_simple (P := Try.prog) (codes := [(cd (Try.f14.body.getD .skip) [1, 1, 0]), (cd (Try.f14.body.getD .skip) [1, 1, 1])]) (N := (fun _ _ => False)) (N' := (fun _ _ => False)) (X := (fun i => (fun _ _ => False))) (X' := (fun i => (fun _ _ => False))) (R := s14_R K) (s := s) (w := w) (p := s14_p1 K (s 4) w) (q := s14_p1_den K s w) tr_id (fun i => tr_id) (by kernel_rfl) (by kernel_rfl) @h
def s14_p2 (K : Value → World → Prop) (t0 t3 t4 : Value) (w : World) : Prop :=
  fd 5 t3 (fun t25 w =>
  ld1 t25 (fun t26 w =>
  cl Try.prog 11 #[t26] (fun t27 w =>
  nck t0 (fun t28 w =>
  fd 0 t28 (fun t29 w =>
  st1 t29 t27 (fun w =>
  bdq [(.bool false), (.int .u64 0), (.slice none 0 0)] [(some (0, 1), (.bool true))] (fun t30 w =>
  stn 3 t4 t30 (fun w =>
  ldn 3 t4 (fun r0 _ =>
  K r0 w) w) w) w) w) w) w) w) w) w
def s14_p2_den (K : Value → World → Prop) : (Nat → Value) → World → Prop := denL Try.prog [(cd (Try.f14.body.getD .skip) [1, 0, 1, 0, 1, 0, 0]), (cd (Try.f14.body.getD .skip) [1, 0, 1, 0, 1, 0, 1, 0]), (cd (Try.f14.body.getD .skip) [1, 0, 1, 0, 1, 0, 1, 1])] (fun _ _ => False) (fun i => (bif Nat.beq i 0 then (s14_p1_den K) else (fun _ _ => False))) (s14_R K)
theorem s14_p2_ok (K : Value → World → Prop) (s : Nat → Value) (w : World) (h : s14_p2 K (s 0) (s 3) (s 4) w) : Tr (s14_p2_den K s w) :=
  tr_simple (P := Try.prog) (codes := [(cd (Try.f14.body.getD .skip) [1, 0, 1, 0, 1, 0, 0]), (cd (Try.f14.body.getD .skip) [1, 0, 1, 0, 1, 0, 1, 0]), (cd (Try.f14.body.getD .skip) [1, 0, 1, 0, 1, 0, 1, 1])]) (N := (fun _ _ => False)) (N' := (fun _ _ => False)) (X := (fun i => (bif Nat.beq i 0 then (fun s w => s14_p1 K (s 4) w) else (fun _ _ => False)))) (X' := (fun i => (bif Nat.beq i 0 then (s14_p1_den K) else (fun _ _ => False)))) (R := s14_R K) (s := s) (w := w) (p := s14_p2 K (s 0) (s 3) (s 4) w) (q := s14_p2_den K s w) tr_id (fun i => (tr_bif (fun s w h => s14_p1_ok K s w @h) tr_id)) (by kernel_rfl) (by kernel_rfl) @h
def s14_p3 (K : Value → World → Prop) (t4 : Value) (w : World) : Prop :=
  ldn 3 t4 (fun r0 _ =>
  K r0 w) w
def s14_p3_den (K : Value → World → Prop) : (Nat → Value) → World → Prop := denL Try.prog [(cd (Try.f14.body.getD .skip) [1, 0, 1, 0, 1, 1, 1, 0, 1, 1])] (fun _ _ => False) (fun i => (bif Nat.beq i 0 then (s14_p1_den K) else (fun _ _ => False))) (s14_R K)
theorem s14_p3_ok (K : Value → World → Prop) (s : Nat → Value) (w : World) (h : s14_p3 K (s 4) w) : Tr (s14_p3_den K s w) :=
  tr_simple (P := Try.prog) (codes := [(cd (Try.f14.body.getD .skip) [1, 0, 1, 0, 1, 1, 1, 0, 1, 1])]) (N := (fun _ _ => False)) (N' := (fun _ _ => False)) (X := (fun i => (bif Nat.beq i 0 then (fun s w => s14_p1 K (s 4) w) else (fun _ _ => False)))) (X' := (fun i => (bif Nat.beq i 0 then (s14_p1_den K) else (fun _ _ => False)))) (R := s14_R K) (s := s) (w := w) (p := s14_p3 K (s 4) w) (q := s14_p3_den K s w) tr_id (fun i => (tr_bif (fun s w h => s14_p1_ok K s w @h) tr_id)) (by kernel_rfl) (by kernel_rfl) @h
def s14_p4_d (K : Value → World → Prop) (t0 t3 t4 : Value) (w0 w : World) : Prop :=
  nck t0 (fun t52 _ =>
  fd 0 t52 (fun t53 _ =>
  ld1 t53 (fun t54 _ =>
  fd 3 t3 (fun t55 _ =>
  ld1 t55 (fun t56 _ =>
  fd 3 t3 (fun t57 _ =>
  ld1 t57 (fun t58 _ =>
  fd 1 t3 (fun t59 _ =>
  ld1 t59 (fun t60 _ =>
  boI .add t58 t60 (fun t61 _ =>
  sls 1 t54 (some t56) (some t61) (fun t62 _ =>
  fd 2 t3 (fun t63 _ =>
  ld1 t63 (fun t64 _ =>
  cl Try.prog 52 #[t62, t64] (fun t65 w =>
  bdq [(.bool false), (.int .u64 0), (.slice none 0 0)] [(some (0, 1), (.bool true)), (some (1, 1), t65)] (fun t66 w =>
  stn 3 t4 t66 (fun w =>
  s14_p3 K t4 w) w) w) w) w0) w0) w0) w0) w0) w0) w0) w0) w0) w0) w0) w0) w0
def s14_p4 (K : Value → World → Prop) (t0 t3 t4 : Value) (w : World) : Prop := s14_p4_d K t0 t3 t4 (drw w) (drw w)
def s14_p4_den (K : Value → World → Prop) : (Nat → Value) → World → Prop := denL Try.prog [(cd (Try.f14.body.getD .skip) [1, 0, 1, 0, 1, 1, 1, 0, 1, 0])] (s14_p3_den K) (fun i => (bif Nat.beq i 0 then (s14_p1_den K) else (fun _ _ => False))) (s14_R K)
theorem s14_p4_ok (K : Value → World → Prop) (s : Nat → Value) (w : World) (h : s14_p4 K (s 0) (s 3) (s 4) w) : Tr (s14_p4_den K s w) :=
  tr_draw (P := Try.prog) (ops := (ro (cd (Try.f14.body.getD .skip) [1, 0, 1, 0, 1, 1, 1, 0, 1, 0]))) (ms := [0, 1, 3, 7, 0, 16, 0, 64, 0, 256, 960, 2047, 0, 4096, 16383, 32767, 65535]) (cs := [0, 1, 2, 3, 4, 5, 6, 7, 8, 9, 10, 11, 12, 13]) (N := (fun s w => s14_p3 K (s 4) w)) (N' := (s14_p3_den K)) (s := s) (w := w) (p := s14_p4 K (s 0) (s 3) (s 4) w) (q := s14_p4_den K s w) (by kernel_rfl) (by kernel_rfl) (fun s w h => s14_p3_ok K s w @h) (by kernel_rfl) (by kernel_rfl) @h
def s14_p5 (K : Value → World → Prop) (t0 t3 t4 t49 : Value) (w : World) : Prop :=
  ifb t49
  (bdq [(.bool false), (.int .u64 0), (.slice none 0 0)] [] (fun t50 w =>
  stn 3 t4 t50 (fun w =>
  ldn 3 t4 (fun r0 _ =>
  K r0 w) w) w) w)
  (s14_p4 K t0 t3 t4 w)
def s14_p5_den (K : Value → World → Prop) : (Nat → Value) → World → Prop := denL Try.prog [(cd (Try.f14.body.getD .skip) [1, 0, 1, 0, 1, 1, 1, 0, 0, 1])] (s14_p4_den K) (fun i => (bif Nat.beq i 0 then (s14_p1_den K) else (fun _ _ => False))) (s14_R K)
theorem s14_p5_ok (K : Value → World → Prop) (s : Nat → Value) (w : World) (h : s14_p5 K (s 0) (s 3) (s 4) (s 49) w) : Tr (s14_p5_den K s w) :=
  tr_simple (P := Try.prog) (codes := [(cd (Try.f14.body.getD .skip) [1, 0, 1, 0, 1, 1, 1, 0, 0, 1])]) (N := (fun s w => s14_p4 K (s 0) (s 3) (s 4) w)) (N' := (s14_p4_den K)) (X := (fun i => (bif Nat.beq i 0 then (fun s w => s14_p1 K (s 4) w) else (fun _ _ => False)))) (X' := (fun i => (bif Nat.beq i 0 then (s14_p1_den K) else (fun _ _ => False)))) (R := s14_R K) (s := s) (w := w) (p := s14_p5 K (s 0) (s 3) (s 4) (s 49) w) (q := s14_p5_den K s w) (fun s w h => s14_p4_ok K s w @h) (fun i => (tr_bif (fun s w h => s14_p1_ok K s w @h) tr_id)) (by kernel_rfl) (by kernel_rfl) @h
def s14_p6_d (K : Value → World → Prop) (J : World → Prop) (t0 t3 t4 : Value) (w0 w : World) : Prop :=
  fd 1 t3 (fun t33 _ =>
  Go.Sh.V.qj J (ld1 t33) (fun t34 =>
  Go.Sh.V.qj J (cl Try.prog 50 #[t34]) (fun t35 =>
  un .not t35 (fun t36 _ =>
  gd t36 false (fun K w => K t0 w) (fun t38 _ =>
  gd t36 false (nck t38) (fun t39 _ =>
  gd t36 false (fd 0 t39) (fun t40 _ =>
  Go.Sh.V.qj J (gd t36 false (ld1 t40)) (fun t41 =>
  gd t36 false (lnS t41) (fun t42 _ =>
  gd t36 false (fd 3 t3) (fun t43 _ =>
  Go.Sh.V.qj J (gd t36 false (ld1 t43)) (fun t44 =>
  gd t36 false (fd 1 t3) (fun t45 _ =>
  Go.Sh.V.qj J (gd t36 false (ld1 t45)) (fun t46 =>
  Go.Sh.V.qj J (gd t36 false (cl Try.prog 51 #[t42, t44, t46])) (fun t47 =>
  gd t36 false (un .not t47) (fun t48 _ =>
  pk t36 (.bool true) t48 (fun t49 _ =>
  ∀ w, J w →
  s14_p5 K t0 t3 t4 t49 w) w0) w0))) w0)) w0) w0)) w0) w0) w0) w0))) w0
def s14_p6 (K : Value → World → Prop) (t0 t3 t4 : Value) (w : World) : Prop := ∃ J : World → Prop, J (drw w) ∧ s14_p6_d K J t0 t3 t4 (drw w) (drw w)
def s14_p6_den (K : Value → World → Prop) : (Nat → Value) → World → Prop := denL Try.prog [(cd (Try.f14.body.getD .skip) [1, 0, 1, 0, 1, 1, 1, 0, 0, 0])] (s14_p5_den K) (fun i => (bif Nat.beq i 0 then (s14_p1_den K) else (fun _ _ => False))) (s14_R K)
theorem s14_p6_ok (K : Value → World → Prop) (s : Nat → Value) (w : World) (h : s14_p6 K (s 0) (s 3) (s 4) w) : Tr (s14_p6_den K s w) :=
  Go.Sh.V.tr_drawV (P := Try.prog) (ops := (ro (cd (Try.f14.body.getD .skip) [1, 0, 1, 0, 1, 1, 1, 0, 0, 0]))) (cs := [0, 1, 2, 3, 4, 5, 6, 7, 8, 9, 10, 11, 12, 13, 14, 15, 16]) (N := (fun s w => s14_p5 K (s 0) (s 3) (s 4) (s 49) w)) (N' := (s14_p5_den K)) (s := s) (w := w) (p := fun J => s14_p6_d K J (s 0) (s 3) (s 4) (drw w) (drw w)) (q := s14_p6_den K s w) (by kernel_rfl) (by kernel_rfl) (fun s w h => s14_p5_ok K s w @h) (by kernel_rfl) (by kernel_rfl) @h
def s14_p7 (K : Value → World → Prop) (t4 : Value) (w : World) : Prop :=
  bdq [(.bool false), (.int .u64 0), (.slice none 0 0)] [(some (0, 1), (.bool true))] (fun t119 w =>
  stn 3 t4 t119 (fun w =>
  ldn 3 t4 (fun r0 _ =>
  K r0 w) w) w) w
def s14_p7_den (K : Value → World → Prop) : (Nat → Value) → World → Prop := denL Try.prog [(cd (Try.f14.body.getD .skip) [1, 0, 1, 0, 1, 1, 1, 1, 1, 0, 1, 1, 1, 1, 0]), (cd (Try.f14.body.getD .skip) [1, 0, 1, 0, 1, 1, 1, 1, 1, 0, 1, 1, 1, 1, 1])] (fun _ _ => False) (fun i => (bif Nat.beq i 0 then (s14_p1_den K) else (fun _ _ => False))) (s14_R K)
theorem s14_p7_ok (K : Value → World → Prop) (s : Nat → Value) (w : World) (h : s14_p7 K (s 4) w) : Tr (s14_p7_den K s w) :=
  tr_simple (P := Try.prog) (codes := [(cd (Try.f14.body.getD .skip) [1, 0, 1, 0, 1, 1, 1, 1, 1, 0, 1, 1, 1, 1, 0]), (cd (Try.f14.body.getD .skip) [1, 0, 1, 0, 1, 1, 1, 1, 1, 0, 1, 1, 1, 1, 1])]) (N := (fun _ _ => False)) (N' := (fun _ _ => False)) (X := (fun i => (bif Nat.beq i 0 then (fun s w => s14_p1 K (s 4) w) else (fun _ _ => False)))) (X' := (fun i => (bif Nat.beq i 0 then (s14_p1_den K) else (fun _ _ => False)))) (R := s14_R K) (s := s) (w := w) (p := s14_p7 K (s 4) w) (q := s14_p7_den K s w) tr_id (fun i => (tr_bif (fun s w h => s14_p1_ok K s w @h) tr_id)) (by kernel_rfl) (by kernel_rfl) @h
def s14_p8_d (K : Value → World → Prop) (t0 t3 t4 t5 : Value) (w0 w : World) : Prop :=
  nck t0 (fun t107 _ =>
  fd 0 t107 (fun t108 _ =>
  ld1 t108 (fun t109 _ =>
  fd 3 t3 (fun t110 _ =>
  ld1 t110 (fun t111 _ =>
  fd 1 t3 (fun t112 _ =>
  ld1 t112 (fun t113 _ =>
  boI .add t111 t113 (fun t114 _ =>
  sls 1 t109 (some t114) none (fun t115 _ =>
  nck t0 (fun t117 _ =>
  fd 0 t117 (fun t118 _ =>
  apq 5 [(.int .u8 0)] 1 t5 t115 (fun t116 w =>
  st1 t118 t116 (fun w =>
  s14_p7 K t4 w) w) w) w0) w0) w0) w0) w0) w0) w0) w0) w0) w0) w0
def s14_p8 (K : Value → World → Prop) (t0 t3 t4 t5 : Value) (w : World) : Prop := s14_p8_d K t0 t3 t4 t5 (drw w) (drw w)
def s14_p8_den (K : Value → World → Prop) : (Nat → Value) → World → Prop := denL Try.prog [(cd (Try.f14.body.getD .skip) [1, 0, 1, 0, 1, 1, 1, 1, 1, 0, 1, 1, 1, 0])] (s14_p7_den K) (fun i => (bif Nat.beq i 0 then (s14_p1_den K) else (fun _ _ => False))) (s14_R K)
theorem s14_p8_ok (K : Value → World → Prop) (s : Nat → Value) (w : World) (h : s14_p8 K (s 0) (s 3) (s 4) (s 5) w) : Tr (s14_p8_den K s w) :=
  tr_draw (P := Try.prog) (ops := (ro (cd (Try.f14.body.getD .skip) [1, 0, 1, 0, 1, 1, 1, 1, 1, 0, 1, 1, 1, 0]))) (ms := [0, 0, 0, 4, 12, 28, 0, 64, 0, 256, 960, 2044, 4094, 8191, 16383, 32767]) (cs := [0, 1, 2, 3, 4, 5, 6, 7, 8, 9, 10, 11, 13, 14]) (N := (fun s w => s14_p7 K (s 4) w)) (N' := (s14_p7_den K)) (s := s) (w := w) (p := s14_p8 K (s 0) (s 3) (s 4) (s 5) w) (q := s14_p8_den K s w) (by kernel_rfl) (by kernel_rfl) (fun s w h => s14_p7_ok K s w @h) (by kernel_rfl) (by kernel_rfl) @h
def s14_p9 (K : Value → World → Prop) (t0 t3 t4 t5 : Value) (w : World) : Prop :=
  fd 4 t3 (fun t96 w =>
  ld1 t96 (fun t97 w =>
  fd 1 t3 (fun t98 w =>
  ld1 t98 (fun t99 w =>
  fd 2 t3 (fun t100 w =>
  ld1 t100 (fun t101 w =>
  cl Try.prog 23 #[t97, t99, t101] (fun t102 w =>
  apq 5 [(.int .u8 0)] 1 t5 t102 (fun t103 w =>
  s14_p8 K t0 t3 t4 t103 w) w) w) w) w) w) w) w) w
def s14_p9_den (K : Value → World → Prop) : (Nat → Value) → World → Prop := denL Try.prog [(cd (Try.f14.body.getD .skip) [1, 0, 1, 0, 1, 1, 1, 1, 1, 0, 1, 1, 0])] (s14_p8_den K) (fun i => (bif Nat.beq i 0 then (s14_p1_den K) else (fun _ _ => False))) (s14_R K)
theorem s14_p9_ok (K : Value → World → Prop) (s : Nat → Value) (w : World) (h : s14_p9 K (s 0) (s 3) (s 4) (s 5) w) : Tr (s14_p9_den K s w) :=
  tr_simple (P := Try.prog) (codes := [(cd (Try.f14.body.getD .skip) [1, 0, 1, 0, 1, 1, 1, 1, 1, 0, 1, 1, 0])]) (N := (fun s w => s14_p8 K (s 0) (s 3) (s 4) (s 5) w)) (N' := (s14_p8_den K)) (X := (fun i => (bif Nat.beq i 0 then (fun s w => s14_p1 K (s 4) w) else (fun _ _ => False)))) (X' := (fun i => (bif Nat.beq i 0 then (s14_p1_den K) else (fun _ _ => False)))) (R := s14_R K) (s := s) (w := w) (p := s14_p9 K (s 0) (s 3) (s 4) (s 5) w) (q := s14_p9_den K s w) (fun s w h => s14_p8_ok K s w @h) (fun i => (tr_bif (fun s w h => s14_p1_ok K s w @h) tr_id)) (by kernel_rfl) (by kernel_rfl) @h
def s14_p10_d (K : Value → World → Prop) (t0 t3 t4 : Value) (w0 w : World) : Prop :=
  nck t0 (fun t88 _ =>
  fd 0 t88 (fun t89 _ =>
  ld1 t89 (fun t90 _ =>
  fd 3 t3 (fun t91 _ =>
  ld1 t91 (fun t92 _ =>
  sls 1 t90 none (some t92) (fun t93 _ =>
  cl Try.prog 11 #[t93] (fun t94 w =>
  s14_p9 K t0 t3 t4 t94 w) w) w0) w0) w0) w0) w0) w0
def s14_p10 (K : Value → World → Prop) (t0 t3 t4 : Value) (w : World) : Prop := s14_p10_d K t0 t3 t4 (drw w) (drw w)
def s14_p10_den (K : Value → World → Prop) : (Nat → Value) → World → Prop := denL Try.prog [(cd (Try.f14.body.getD .skip) [1, 0, 1, 0, 1, 1, 1, 1, 1, 0, 1, 0])] (s14_p9_den K) (fun i => (bif Nat.beq i 0 then (s14_p1_den K) else (fun _ _ => False))) (s14_R K)
theorem s14_p10_ok (K : Value → World → Prop) (s : Nat → Value) (w : World) (h : s14_p10 K (s 0) (s 3) (s 4) w) : Tr (s14_p10_den K s w) :=
  tr_draw (P := Try.prog) (ops := (ro (cd (Try.f14.body.getD .skip) [1, 0, 1, 0, 1, 1, 1, 1, 1, 0, 1, 0]))) (ms := [0, 1, 3, 7, 0, 16, 63, 127, 255]) (cs := [0, 1, 2, 3, 4, 5, 6]) (N := (fun s w => s14_p9 K (s 0) (s 3) (s 4) (s 5) w)) (N' := (s14_p9_den K)) (s := s) (w := w) (p := s14_p10 K (s 0) (s 3) (s 4) w) (q := s14_p10_den K s w) (by kernel_rfl) (by kernel_rfl) (fun s w h => s14_p9_ok K s w @h) (by kernel_rfl) (by kernel_rfl) @h
def s14_p11 (K : Value → World → Prop) (t0 t3 t4 t85 : Value) (w : World) : Prop :=
  ifb t85
  (bdq [(.bool false), (.int .u64 0), (.slice none 0 0)] [] (fun t86 w =>
  stn 3 t4 t86 (fun w =>
  ldn 3 t4 (fun r0 _ =>
  K r0 w) w) w) w)
  (s14_p10 K t0 t3 t4 w)
def s14_p11_den (K : Value → World → Prop) : (Nat → Value) → World → Prop := denL Try.prog [(cd (Try.f14.body.getD .skip) [1, 0, 1, 0, 1, 1, 1, 1, 1, 0, 0, 1])] (s14_p10_den K) (fun i => (bif Nat.beq i 0 then (s14_p1_den K) else (fun _ _ => False))) (s14_R K)
theorem s14_p11_ok (K : Value → World → Prop) (s : Nat → Value) (w : World) (h : s14_p11 K (s 0) (s 3) (s 4) (s 85) w) : Tr (s14_p11_den K s w) :=
  tr_simple (P := Try.prog) (codes := [(cd (Try.f14.body.getD .skip) [1, 0, 1, 0, 1, 1, 1, 1, 1, 0, 0, 1])]) (N := (fun s w => s14_p10 K (s 0) (s 3) (s 4) w)) (N' := (s14_p10_den K)) (X := (fun i => (bif Nat.beq i 0 then (fun s w => s14_p1 K (s 4) w) else (fun _ _ => False)))) (X' := (fun i => (bif Nat.beq i 0 then (s14_p1_den K) else (fun _ _ => False)))) (R := s14_R K) (s := s) (w := w) (p := s14_p11 K (s 0) (s 3) (s 4) (s 85) w) (q := s14_p11_den K s w) (fun s w h => s14_p10_ok K s w @h) (fun i => (tr_bif (fun s w h => s14_p1_ok K s w @h) tr_id)) (by kernel_rfl) (by kernel_rfl) @h
def s14_p12_d (K : Value → World → Prop) (J : World → Prop) (t0 t3 t4 : Value) (w0 w : World) : Prop :=
  fd 1 t3 (fun t69 _ =>
  Go.Sh.V.qj J (ld1 t69) (fun t70 =>
  Go.Sh.V.qj J (cl Try.prog 50 #[t70]) (fun t71 =>
  un .not t71 (fun t72 _ =>
  gd t72 false (fun K w => K t0 w) (fun t74 _ =>
  gd t72 false (nck t74) (fun t75 _ =>
  gd t72 false (fd 0 t75) (fun t76 _ =>
  Go.Sh.V.qj J (gd t72 false (ld1 t76)) (fun t77 =>
  gd t72 false (lnS t77) (fun t78 _ =>
  gd t72 false (fd 3 t3) (fun t79 _ =>
  Go.Sh.V.qj J (gd t72 false (ld1 t79)) (fun t80 =>
  gd t72 false (fd 1 t3) (fun t81 _ =>
  Go.Sh.V.qj J (gd t72 false (ld1 t81)) (fun t82 =>
  Go.Sh.V.qj J (gd t72 false (cl Try.prog 51 #[t78, t80, t82])) (fun t83 =>
  gd t72 false (un .not t83) (fun t84 _ =>
  pk t72 (.bool true) t84 (fun t85 _ =>
  ∀ w, J w →
  s14_p11 K t0 t3 t4 t85 w) w0) w0))) w0)) w0) w0)) w0) w0) w0) w0))) w0
def s14_p12 (K : Value → World → Prop) (t0 t3 t4 : Value) (w : World) : Prop := ∃ J : World → Prop, J (drw w) ∧ s14_p12_d K J t0 t3 t4 (drw w) (drw w)
def s14_p12_den (K : Value → World → Prop) : (Nat → Value) → World → Prop := denL Try.prog [(cd (Try.f14.body.getD .skip) [1, 0, 1, 0, 1, 1, 1, 1, 1, 0, 0, 0])] (s14_p11_den K) (fun i => (bif Nat.beq i 0 then (s14_p1_den K) else (fun _ _ => False))) (s14_R K)
theorem s14_p12_ok (K : Value → World → Prop) (s : Nat → Value) (w : World) (h : s14_p12 K (s 0) (s 3) (s 4) w) : Tr (s14_p12_den K s w) :=
  Go.Sh.V.tr_drawV (P := Try.prog) (ops := (ro (cd (Try.f14.body.getD .skip) [1, 0, 1, 0, 1, 1, 1, 1, 1, 0, 0, 0]))) (cs := [0, 1, 2, 3, 4, 5, 6, 7, 8, 9, 10, 11, 12, 13, 14, 15, 16]) (N := (fun s w => s14_p11 K (s 0) (s 3) (s 4) (s 85) w)) (N' := (s14_p11_den K)) (s := s) (w := w) (p := fun J => s14_p12_d K J (s 0) (s 3) (s 4) (drw w) (drw w)) (q := s14_p12_den K s w) (by kernel_rfl) (by kernel_rfl) (fun s w h => s14_p11_ok K s w @h) (by kernel_rfl) (by kernel_rfl) @h
def s14_p13 (K : Value → World → Prop) (t4 : Value) (w : World) : Prop :=
  bdq [(.bool false), (.int .u64 0), (.slice none 0 0)] [(some (0, 1), (.bool true))] (fun t143 w =>
  stn 3 t4 t143 (fun w =>
  ldn 3 t4 (fun r0 _ =>
  K r0 w) w) w) w
def s14_p13_den (K : Value → World → Prop) : (Nat → Value) → World → Prop := denL Try.prog [(cd (Try.f14.body.getD .skip) [1, 0, 1, 0, 1, 1, 1, 1, 1, 1, 1, 0, 1, 1, 0]), (cd (Try.f14.body.getD .skip) [1, 0, 1, 0, 1, 1, 1, 1, 1, 1, 1, 0, 1, 1, 1])] (fun _ _ => False) (fun i => (bif Nat.beq i 0 then (s14_p1_den K) else (fun _ _ => False))) (s14_R K)
theorem s14_p13_ok (K : Value → World → Prop) (s : Nat → Value) (w : World) (h : s14_p13 K (s 4) w) : Tr (s14_p13_den K s w) :=
  tr_simple (P := Try.prog) (codes := [(cd (Try.f14.body.getD .skip) [1, 0, 1, 0, 1, 1, 1, 1, 1, 1, 1, 0, 1, 1, 0]), (cd (Try.f14.body.getD .skip) [1, 0, 1, 0, 1, 1, 1, 1, 1, 1, 1, 0, 1, 1, 1])]) (N := (fun _ _ => False)) (N' := (fun _ _ => False)) (X := (fun i => (bif Nat.beq i 0 then (fun s w => s14_p1 K (s 4) w) else (fun _ _ => False)))) (X' := (fun i => (bif Nat.beq i 0 then (s14_p1_den K) else (fun _ _ => False)))) (R := s14_R K) (s := s) (w := w) (p := s14_p13 K (s 4) w) (q := s14_p13_den K s w) tr_id (fun i => (tr_bif (fun s w h => s14_p1_ok K s w @h) tr_id)) (by kernel_rfl) (by kernel_rfl) @h
def s14_p14_d (K : Value → World → Prop) (t0 t3 t4 : Value) (w0 w : World) : Prop :=
  nck t0 (fun t129 _ =>
  fd 0 t129 (fun t130 _ =>
  ld1 t130 (fun t131 _ =>
  fd 4 t3 (fun t133 _ =>
  ld1 t133 (fun t134 _ =>
  fd 1 t3 (fun t135 _ =>
  ld1 t135 (fun t136 _ =>
  fd 2 t3 (fun t137 _ =>
  ld1 t137 (fun t138 _ =>
  nck t0 (fun t141 _ =>
  fd 0 t141 (fun t142 _ =>
  cl Try.prog 11 #[t131] (fun t132 w =>
  Below w0.heap.size w0 w ∧
  cl Try.prog 23 #[t134, t136, t138] (fun t139 w =>
  apq 5 [(.int .u8 0)] 1 t132 t139 (fun t140 w =>
  st1 t142 t140 (fun w =>
  s14_p13 K t4 w) w) w) w) w) w0) w0) w0) w0) w0) w0) w0) w0) w0) w0) w0
def s14_p14 (K : Value → World → Prop) (t0 t3 t4 : Value) (w : World) : Prop := s14_p14_d K t0 t3 t4 (drw w) (drw w)
def s14_p14_den (K : Value → World → Prop) : (Nat → Value) → World → Prop := denL Try.prog [(cd (Try.f14.body.getD .skip) [1, 0, 1, 0, 1, 1, 1, 1, 1, 1, 1, 0, 1, 0])] (s14_p13_den K) (fun i => (bif Nat.beq i 0 then (s14_p1_den K) else (fun _ _ => False))) (s14_R K)
theorem s14_p14_ok (K : Value → World → Prop) (s : Nat → Value) (w : World) (h : s14_p14 K (s 0) (s 3) (s 4) w) : Tr (s14_p14_den K s w) :=
  tr_draw (P := Try.prog) (ops := (ro (cd (Try.f14.body.getD .skip) [1, 0, 1, 0, 1, 1, 1, 1, 1, 1, 1, 0, 1, 0]))) (ms := [0, 0, 2, 6, 14, 30, 0, 64, 0, 256, 0, 1024, 4094, 8190, 16383, 32767, 65535]) (cs := [0, 1, 2, 3, 4, 6, 7, 8, 9, 10, 11, 14, 15]) (N := (fun s w => s14_p13 K (s 4) w)) (N' := (s14_p13_den K)) (s := s) (w := w) (p := s14_p14 K (s 0) (s 3) (s 4) w) (q := s14_p14_den K s w) (by kernel_rfl) (by kernel_rfl) (fun s w h => s14_p13_ok K s w @h) (by kernel_rfl) (by kernel_rfl) @h
def s14_p15 (K : Value → World → Prop) (t0 t3 t4 : Value) (w : World) : Prop :=
  fd 1 t3 (fun t122 w =>
  ld1 t122 (fun t123 w =>
  cl Try.prog 50 #[t123] (fun t124 w =>
  un .not t124 (fun t125 w =>
  ifb t125
  (bdq [(.bool false), (.int .u64 0), (.slice none 0 0)] [] (fun t126 w =>
  stn 3 t4 t126 (fun w =>
  ldn 3 t4 (fun r0 _ =>
  K r0 w) w) w) w)
  (s14_p14 K t0 t3 t4 w)) w) w) w) w
def s14_p15_den (K : Value → World → Prop) : (Nat → Value) → World → Prop := denL Try.prog [(cd (Try.f14.body.getD .skip) [1, 0, 1, 0, 1, 1, 1, 1, 1, 1, 1, 0, 0, 0]), (cd (Try.f14.body.getD .skip) [1, 0, 1, 0, 1, 1, 1, 1, 1, 1, 1, 0, 0, 1])] (s14_p14_den K) (fun i => (bif Nat.beq i 0 then (s14_p1_den K) else (fun _ _ => False))) (s14_R K)
theorem s14_p15_ok (K : Value → World → Prop) (s : Nat → Value) (w : World) (h : s14_p15 K (s 0) (s 3) (s 4) w) : Tr (s14_p15_den K s w) :=
  tr_simple (P := Try.prog) (codes := [(cd (Try.f14.body.getD .skip) [1, 0, 1, 0, 1, 1, 1, 1, 1, 1, 1, 0, 0, 0]), (cd (Try.f14.body.getD .skip) [1, 0, 1, 0, 1, 1, 1, 1, 1, 1, 1, 0, 0, 1])]) (N := (fun s w => s14_p14 K (s 0) (s 3) (s 4) w)) (N' := (s14_p14_den K)) (X := (fun i => (bif Nat.beq i 0 then (fun s w => s14_p1 K (s 4) w) else (fun _ _ => False)))) (X' := (fun i => (bif Nat.beq i 0 then (s14_p1_den K) else (fun _ _ => False)))) (R := s14_R K) (s := s) (w := w) (p := s14_p15 K (s 0) (s 3) (s 4) w) (q := s14_p15_den K s w) (fun s w h => s14_p14_ok K s w @h) (fun i => (tr_bif (fun s w h => s14_p1_ok K s w @h) tr_id)) (by kernel_rfl) (by kernel_rfl) @h
def s14_p16 (K : Value → World → Prop) (t4 : Value) (w : World) : Prop :=
  bdq [(.bool false), (.int .u64 0), (.slice none 0 0)] [(some (0, 1), (.bool true))] (fun t156 w =>
  stn 3 t4 t156 (fun w =>
  ldn 3 t4 (fun r0 _ =>
  K r0 w) w) w) w
def s14_p16_den (K : Value → World → Prop) : (Nat → Value) → World → Prop := denL Try.prog [(cd (Try.f14.body.getD .skip) [1, 0, 1, 0, 1, 1, 1, 1, 1, 1, 1, 1, 1, 0, 1, 0]), (cd (Try.f14.body.getD .skip) [1, 0, 1, 0, 1, 1, 1, 1, 1, 1, 1, 1, 1, 0, 1, 1])] (fun _ _ => False) (fun i => (bif Nat.beq i 0 then (s14_p1_den K) else (fun _ _ => False))) (s14_R K)
theorem s14_p16_ok (K : Value → World → Prop) (s : Nat → Value) (w : World) (h : s14_p16 K (s 4) w) : Tr (s14_p16_den K s w) :=
  tr_simple (P := Try.prog) (codes := [(cd (Try.f14.body.getD .skip) [1, 0, 1, 0, 1, 1, 1, 1, 1, 1, 1, 1, 1, 0, 1, 0]), (cd (Try.f14.body.getD .skip) [1, 0, 1, 0, 1, 1, 1, 1, 1, 1, 1, 1, 1, 0, 1, 1])]) (N := (fun _ _ => False)) (N' := (fun _ _ => False)) (X := (fun i => (bif Nat.beq i 0 then (fun s w => s14_p1 K (s 4) w) else (fun _ _ => False)))) (X' := (fun i => (bif Nat.beq i 0 then (s14_p1_den K) else (fun _ _ => False)))) (R := s14_R K) (s := s) (w := w) (p := s14_p16 K (s 4) w) (q := s14_p16_den K s w) tr_id (fun i => (tr_bif (fun s w h => s14_p1_ok K s w @h) tr_id)) (by kernel_rfl) (by kernel_rfl) @h
def s14_p17_d (K : Value → World → Prop) (t0 t3 t4 : Value) (w0 w : World) : Prop :=
  nck t0 (fun t148 _ =>
  fd 0 t148 (fun t149 _ =>
  ld1 t149 (fun t150 _ =>
  fd 3 t3 (fun t151 _ =>
  ld1 t151 (fun t152 _ =>
  nck t0 (fun t154 _ =>
  fd 0 t154 (fun t155 _ =>
  cl Try.prog 53 #[t150, t152] (fun t153 w =>
  st1 t155 t153 (fun w =>
  s14_p16 K t4 w) w) w) w0) w0) w0) w0) w0) w0) w0
def s14_p17 (K : Value → World → Prop) (t0 t3 t4 : Value) (w : World) : Prop := s14_p17_d K t0 t3 t4 (drw w) (drw w)
def s14_p17_den (K : Value → World → Prop) : (Nat → Value) → World → Prop := denL Try.prog [(cd (Try.f14.body.getD .skip) [1, 0, 1, 0, 1, 1, 1, 1, 1, 1, 1, 1, 1, 0, 0])] (s14_p16_den K) (fun i => (bif Nat.beq i 0 then (s14_p1_den K) else (fun _ _ => False))) (s14_R K)
theorem s14_p17_ok (K : Value → World → Prop) (s : Nat → Value) (w : World) (h : s14_p17 K (s 0) (s 3) (s 4) w) : Tr (s14_p17_den K s w) :=
  tr_draw (P := Try.prog) (ops := (ro (cd (Try.f14.body.getD .skip) [1, 0, 1, 0, 1, 1, 1, 1, 1, 1, 1, 1, 1, 0, 0]))) (ms := [0, 0, 2, 6, 14, 0, 32, 126, 255, 511, 1023]) (cs := [0, 1, 2, 3, 4, 5, 6, 8, 9]) (N := (fun s w => s14_p16 K (s 4) w)) (N' := (s14_p16_den K)) (s := s) (w := w) (p := s14_p17 K (s 0) (s 3) (s 4) w) (q := s14_p17_den K s w) (by kernel_rfl) (by kernel_rfl) (fun s w h => s14_p16_ok K s w @h) (by kernel_rfl) (by kernel_rfl) @h
def s14_p18 (K : Value → World → Prop) (t4 : Value) (w : World) : Prop :=
  bdq [(.bool false), (.int .u64 0), (.slice none 0 0)] [(some (0, 1), (.bool true))] (fun t169 w =>
  stn 3 t4 t169 (fun w =>
  ldn 3 t4 (fun r0 _ =>
  K r0 w) w) w) w
def s14_p18_den (K : Value → World → Prop) : (Nat → Value) → World → Prop := denL Try.prog [(cd (Try.f14.body.getD .skip) [1, 0, 1, 0, 1, 1, 1, 1, 1, 1, 1, 1, 1, 1, 1, 0, 1, 0]), (cd (Try.f14.body.getD .skip) [1, 0, 1, 0, 1, 1, 1, 1, 1, 1, 1, 1, 1, 1, 1, 0, 1, 1])] (fun _ _ => False) (fun i => (bif Nat.beq i 0 then (s14_p1_den K) else (fun _ _ => False))) (s14_R K)
theorem s14_p18_ok (K : Value → World → Prop) (s : Nat → Value) (w : World) (h : s14_p18 K (s 4) w) : Tr (s14_p18_den K s w) :=
  tr_simple (P := Try.prog) (codes := [(cd (Try.f14.body.getD .skip) [1, 0, 1, 0, 1, 1, 1, 1, 1, 1, 1, 1, 1, 1, 1, 0, 1, 0]), (cd (Try.f14.body.getD .skip) [1, 0, 1, 0, 1, 1, 1, 1, 1, 1, 1, 1, 1, 1, 1, 0, 1, 1])]) (N := (fun _ _ => False)) (N' := (fun _ _ => False)) (X := (fun i => (bif Nat.beq i 0 then (fun s w => s14_p1 K (s 4) w) else (fun _ _ => False)))) (X' := (fun i => (bif Nat.beq i 0 then (s14_p1_den K) else (fun _ _ => False)))) (R := s14_R K) (s := s) (w := w) (p := s14_p18 K (s 4) w) (q := s14_p18_den K s w) tr_id (fun i => (tr_bif (fun s w h => s14_p1_ok K s w @h) tr_id)) (by kernel_rfl) (by kernel_rfl) @h
def s14_p19_d (K : Value → World → Prop) (t0 t3 t4 : Value) (w0 w : World) : Prop :=
  nck t0 (fun t161 _ =>
  fd 0 t161 (fun t162 _ =>
  ld1 t162 (fun t163 _ =>
  fd 3 t3 (fun t164 _ =>
  ld1 t164 (fun t165 _ =>
  nck t0 (fun t167 _ =>
  fd 0 t167 (fun t168 _ =>
  cl Try.prog 54 #[t163, t165] (fun t166 w =>
  st1 t168 t166 (fun w =>
  s14_p18 K t4 w) w) w) w0) w0) w0) w0) w0) w0) w0
def s14_p19 (K : Value → World → Prop) (t0 t3 t4 : Value) (w : World) : Prop := s14_p19_d K t0 t3 t4 (drw w) (drw w)
def s14_p19_den (K : Value → World → Prop) : (Nat → Value) → World → Prop := denL Try.prog [(cd (Try.f14.body.getD .skip) [1, 0, 1, 0, 1, 1, 1, 1, 1, 1, 1, 1, 1, 1, 1, 0, 0])] (s14_p18_den K) (fun i => (bif Nat.beq i 0 then (s14_p1_den K) else (fun _ _ => False))) (s14_R K)
theorem s14_p19_ok (K : Value → World → Prop) (s : Nat → Value) (w : World) (h : s14_p19 K (s 0) (s 3) (s 4) w) : Tr (s14_p19_den K s w) :=
  tr_draw (P := Try.prog) (ops := (ro (cd (Try.f14.body.getD .skip) [1, 0, 1, 0, 1, 1, 1, 1, 1, 1, 1, 1, 1, 1, 1, 0, 0]))) (ms := [0, 0, 2, 6, 14, 0, 32, 126, 255, 511, 1023]) (cs := [0, 1, 2, 3, 4, 5, 6, 8, 9]) (N := (fun s w => s14_p18 K (s 4) w)) (N' := (s14_p18_den K)) (s := s) (w := w) (p := s14_p19 K (s 0) (s 3) (s 4) w) (q := s14_p19_den K s w) (by kernel_rfl) (by kernel_rfl) (fun s w h => s14_p18_ok K s w @h) (by kernel_rfl) (by kernel_rfl) @h
def s14_p20 (K : Value → World → Prop) (t0 t4 t6 t7 : Value) (w : World) : Prop :=
  un .not t7 (fun t183 w =>
  ifb t183
  (bdq [(.bool false), (.int .u64 0), (.slice none 0 0)] [] (fun t184 w =>
  stn 3 t4 t184 (fun w =>
  ldn 3 t4 (fun r0 _ =>
  K r0 w) w) w) w)
  (nck t0 (fun t187 w =>
  fd 0 t187 (fun t188 w =>
  st1 t188 t6 (fun w =>
  bdq [(.bool false), (.int .u64 0), (.slice none 0 0)] [(some (0, 1), (.bool true))] (fun t189 w =>
  stn 3 t4 t189 (fun w =>
  ldn 3 t4 (fun r0 _ =>
  K r0 w) w) w) w) w) w) w)) w
def s14_p20_den (K : Value → World → Prop) : (Nat → Value) → World → Prop := denL Try.prog [(cd (Try.f14.body.getD .skip) [1, 0, 1, 0, 1, 1, 1, 1, 1, 1, 1, 1, 1, 1, 1, 1, 1, 0, 1, 0, 0]), (cd (Try.f14.body.getD .skip) [1, 0, 1, 0, 1, 1, 1, 1, 1, 1, 1, 1, 1, 1, 1, 1, 1, 0, 1, 0, 1]), (cd (Try.f14.body.getD .skip) [1, 0, 1, 0, 1, 1, 1, 1, 1, 1, 1, 1, 1, 1, 1, 1, 1, 0, 1, 1, 0]), (cd (Try.f14.body.getD .skip) [1, 0, 1, 0, 1, 1, 1, 1, 1, 1, 1, 1, 1, 1, 1, 1, 1, 0, 1, 1, 1, 0]), (cd (Try.f14.body.getD .skip) [1, 0, 1, 0, 1, 1, 1, 1, 1, 1, 1, 1, 1, 1, 1, 1, 1, 0, 1, 1, 1, 1])] (fun _ _ => False) (fun i => (bif Nat.beq i 0 then (s14_p1_den K) else (fun _ _ => False))) (s14_R K)
theorem s14_p20_ok (K : Value → World → Prop) (s : Nat → Value) (w : World) (h : s14_p20 K (s 0) (s 4) (s 6) (s 7) w) : Tr (s14_p20_den K s w) :=
  tr_simple (P := Try.prog) (codes := [(cd (Try.f14.body.getD .skip) [1, 0, 1, 0, 1, 1, 1, 1, 1, 1, 1, 1, 1, 1, 1, 1, 1, 0, 1, 0, 0]), (cd (Try.f14.body.getD .skip) [1, 0, 1, 0, 1, 1, 1, 1, 1, 1, 1, 1, 1, 1, 1, 1, 1, 0, 1, 0, 1]), (cd (Try.f14.body.getD .skip) [1, 0, 1, 0, 1, 1, 1, 1, 1, 1, 1, 1, 1, 1, 1, 1, 1, 0, 1, 1, 0]), (cd (Try.f14.body.getD .skip) [1, 0, 1, 0, 1, 1, 1, 1, 1, 1, 1, 1, 1, 1, 1, 1, 1, 0, 1, 1, 1, 0]), (cd (Try.f14.body.getD .skip) [1, 0, 1, 0, 1, 1, 1, 1, 1, 1, 1, 1, 1, 1, 1, 1, 1, 0, 1, 1, 1, 1])]) (N := (fun _ _ => False)) (N' := (fun _ _ => False)) (X := (fun i => (bif Nat.beq i 0 then (fun s w => s14_p1 K (s 4) w) else (fun _ _ => False)))) (X' := (fun i => (bif Nat.beq i 0 then (s14_p1_den K) else (fun _ _ => False)))) (R := s14_R K) (s := s) (w := w) (p := s14_p20 K (s 0) (s 4) (s 6) (s 7) w) (q := s14_p20_den K s w) tr_id (fun i => (tr_bif (fun s w h => s14_p1_ok K s w @h) tr_id)) (by kernel_rfl) (by kernel_rfl) @h
def s14_p21_d (K : Value → World → Prop) (t0 t3 t4 : Value) (w0 w : World) : Prop :=
  nck t0 (fun t174 _ =>
  fd 0 t174 (fun t175 _ =>
  ld1 t175 (fun t176 _ =>
  fd 5 t3 (fun t177 _ =>
  ld1 t177 (fun t178 _ =>
  cl Try.prog 55 #[t176, t178] (fun t179 w =>
  (exq t179 0 (fun t180 w =>
  (exq t179 1 (fun t181 w =>
  s14_p20 K t0 t4 t180 t181 w) w) ∧
  (exq t179 1 (fun t181_2 w =>
  s14_p20 K t0 t4 t180 t181_2 w) w)) w) ∧
  (exq t179 1 (fun t181_3 w =>
  exq t179 0 (fun t180_2 w =>
  s14_p20 K t0 t4 t180_2 t181_3 w) w) w)) w) w0) w0) w0) w0) w0
def s14_p21 (K : Value → World → Prop) (t0 t3 t4 : Value) (w : World) : Prop := s14_p21_d K t0 t3 t4 (drw w) (drw w)
def s14_p21_den (K : Value → World → Prop) : (Nat → Value) → World → Prop := denL Try.prog [(cd (Try.f14.body.getD .skip) [1, 0, 1, 0, 1, 1, 1, 1, 1, 1, 1, 1, 1, 1, 1, 1, 1, 0, 0])] (s14_p20_den K) (fun i => (bif Nat.beq i 0 then (s14_p1_den K) else (fun _ _ => False))) (s14_R K)
theorem s14_p21_ok (K : Value → World → Prop) (s : Nat → Value) (w : World) (h : s14_p21 K (s 0) (s 3) (s 4) w) : Tr (s14_p21_den K s w) :=
  tr_draw (P := Try.prog) (ops := (ro (cd (Try.f14.body.getD .skip) [1, 0, 1, 0, 1, 1, 1, 1, 1, 1, 1, 1, 1, 1, 1, 1, 1, 0, 0]))) (ms := [0, 1, 3, 7, 0, 16, 63, 127, 255, 255, 511, 2047]) (cs := [0, 1, 2, 3, 4, 5]) (N := (fun s w => s14_p20 K (s 0) (s 4) (s 6) (s 7) w)) (N' := (s14_p20_den K)) (s := s) (w := w) (p := s14_p21 K (s 0) (s 3) (s 4) w) (q := s14_p21_den K s w) (by kernel_rfl) (by kernel_rfl) (fun s w h => s14_p20_ok K s w @h) (by kernel_rfl) (by kernel_rfl) @h
def s14_p22 (K : Value → World → Prop) (t0 t4 t8 t9 : Value) (w : World) : Prop :=
  un .not t9 (fun t204 w =>
  ifb t204
  (bdq [(.bool false), (.int .u64 0), (.slice none 0 0)] [] (fun t205 w =>
  stn 3 t4 t205 (fun w =>
  ldn 3 t4 (fun r0 _ =>
  K r0 w) w) w) w)
  (nck t0 (fun t208 w =>
  fd 0 t208 (fun t209 w =>
  st1 t209 t8 (fun w =>
  bdq [(.bool false), (.int .u64 0), (.slice none 0 0)] [(some (0, 1), (.bool true))] (fun t210 w =>
  stn 3 t4 t210 (fun w =>
  ldn 3 t4 (fun r0 _ =>
  K r0 w) w) w) w) w) w) w)) w
def s14_p22_den (K : Value → World → Prop) : (Nat → Value) → World → Prop := denL Try.prog [(cd (Try.f14.body.getD .skip) [1, 0, 1, 0, 1, 1, 1, 1, 1, 1, 1, 1, 1, 1, 1, 1, 1, 1, 1, 0, 1, 0, 0]), (cd (Try.f14.body.getD .skip) [1, 0, 1, 0, 1, 1, 1, 1, 1, 1, 1, 1, 1, 1, 1, 1, 1, 1, 1, 0, 1, 0, 1]), (cd (Try.f14.body.getD .skip) [1, 0, 1, 0, 1, 1, 1, 1, 1, 1, 1, 1, 1, 1, 1, 1, 1, 1, 1, 0, 1, 1, 0]), (cd (Try.f14.body.getD .skip) [1, 0, 1, 0, 1, 1, 1, 1, 1, 1, 1, 1, 1, 1, 1, 1, 1, 1, 1, 0, 1, 1, 1, 0]), (cd (Try.f14.body.getD .skip) [1, 0, 1, 0, 1, 1, 1, 1, 1, 1, 1, 1, 1, 1, 1, 1, 1, 1, 1, 0, 1, 1, 1, 1])] (fun _ _ => False) (fun i => (bif Nat.beq i 0 then (s14_p1_den K) else (fun _ _ => False))) (s14_R K)
theorem s14_p22_ok (K : Value → World → Prop) (s : Nat → Value) (w : World) (h : s14_p22 K (s 0) (s 4) (s 8) (s 9) w) : Tr (s14_p22_den K s w) :=
  tr_simple (P := Try.prog) (codes := [(cd (Try.f14.body.getD .skip) [1, 0, 1, 0, 1, 1, 1, 1, 1, 1, 1, 1, 1, 1, 1, 1, 1, 1, 1, 0, 1, 0, 0]), (cd (Try.f14.body.getD .skip) [1, 0, 1, 0, 1, 1, 1, 1, 1, 1, 1, 1, 1, 1, 1, 1, 1, 1, 1, 0, 1, 0, 1]), (cd (Try.f14.body.getD .skip) [1, 0, 1, 0, 1, 1, 1, 1, 1, 1, 1, 1, 1, 1, 1, 1, 1, 1, 1, 0, 1, 1, 0]), (cd (Try.f14.body.getD .skip) [1, 0, 1, 0, 1, 1, 1, 1, 1, 1, 1, 1, 1, 1, 1, 1, 1, 1, 1, 0, 1, 1, 1, 0]), (cd (Try.f14.body.getD .skip) [1, 0, 1, 0, 1, 1, 1, 1, 1, 1, 1, 1, 1, 1, 1, 1, 1, 1, 1, 0, 1, 1, 1, 1])]) (N := (fun _ _ => False)) (N' := (fun _ _ => False)) (X := (fun i => (bif Nat.beq i 0 then (fun s w => s14_p1 K (s 4) w) else (fun _ _ => False)))) (X' := (fun i => (bif Nat.beq i 0 then (s14_p1_den K) else (fun _ _ => False)))) (R := s14_R K) (s := s) (w := w) (p := s14_p22 K (s 0) (s 4) (s 8) (s 9) w) (q := s14_p22_den K s w) tr_id (fun i => (tr_bif (fun s w h => s14_p1_ok K s w @h) tr_id)) (by kernel_rfl) (by kernel_rfl) @h
def s14_p23_d (K : Value → World → Prop) (t0 t3 t4 : Value) (w0 w : World) : Prop :=
  nck t0 (fun t194 _ =>
  fd 0 t194 (fun t195 _ =>
  ld1 t195 (fun t196 _ =>
  lnS t196 (fun t197 _ =>
  fd 5 t3 (fun t198 _ =>
  ld1 t198 (fun t199 _ =>
  cl Try.prog 56 #[t197, t199] (fun t200 w =>
  (exq t200 0 (fun t201 w =>
  (exq t200 1 (fun t202 w =>
  s14_p22 K t0 t4 t201 t202 w) w) ∧
  (exq t200 1 (fun t202_2 w =>
  s14_p22 K t0 t4 t201 t202_2 w) w)) w) ∧
  (exq t200 1 (fun t202_3 w =>
  exq t200 0 (fun t201_2 w =>
  s14_p22 K t0 t4 t201_2 t202_3 w) w) w)) w) w0) w0) w0) w0) w0) w0
def s14_p23 (K : Value → World → Prop) (t0 t3 t4 : Value) (w : World) : Prop := s14_p23_d K t0 t3 t4 (drw w) (drw w)
def s14_p23_den (K : Value → World → Prop) : (Nat → Value) → World → Prop := denL Try.prog [(cd (Try.f14.body.getD .skip) [1, 0, 1, 0, 1, 1, 1, 1, 1, 1, 1, 1, 1, 1, 1, 1, 1, 1, 1, 0, 0])] (s14_p22_den K) (fun i => (bif Nat.beq i 0 then (s14_p1_den K) else (fun _ _ => False))) (s14_R K)
theorem s14_p23_ok (K : Value → World → Prop) (s : Nat → Value) (w : World) (h : s14_p23 K (s 0) (s 3) (s 4) w) : Tr (s14_p23_den K s w) :=
  tr_draw (P := Try.prog) (ops := (ro (cd (Try.f14.body.getD .skip) [1, 0, 1, 0, 1, 1, 1, 1, 1, 1, 1, 1, 1, 1, 1, 1, 1, 1, 1, 0, 0]))) (ms := [0, 1, 3, 7, 15, 0, 32, 127, 255, 511, 511, 1023, 4095]) (cs := [0, 1, 2, 3, 4, 5, 6]) (N := (fun s w => s14_p22 K (s 0) (s 4) (s 8) (s 9) w)) (N' := (s14_p22_den K)) (s := s) (w := w) (p := s14_p23 K (s 0) (s 3) (s 4) w) (q := s14_p23_den K s w) (by kernel_rfl) (by kernel_rfl) (fun s w h => s14_p22_ok K s w @h) (by kernel_rfl) (by kernel_rfl) @h
def s14_p24 (K : Value → World → Prop) (t0 t4 t10 t11 : Value) (w : World) : Prop :=
  nck t0 (fun t225 w =>
  fd 0 t225 (fun t226 w =>
  st1 t226 t10 (fun w =>
  cvi .u64 t11 (fun t228 w =>
  bdq [(.bool false), (.int .u64 0), (.slice none 0 0)] [(some (0, 1), (.bool true)), (some (1, 1), t228)] (fun t229 w =>
  stn 3 t4 t229 (fun w =>
  ldn 3 t4 (fun r0 _ =>
  K r0 w) w) w) w) w) w) w) w
def s14_p24_den (K : Value → World → Prop) : (Nat → Value) → World → Prop := denL Try.prog [(cd (Try.f14.body.getD .skip) [1, 0, 1, 0, 1, 1, 1, 1, 1, 1, 1, 1, 1, 1, 1, 1, 1, 1, 1, 1, 1, 0, 1, 0]), (cd (Try.f14.body.getD .skip) [1, 0, 1, 0, 1, 1, 1, 1, 1, 1, 1, 1, 1, 1, 1, 1, 1, 1, 1, 1, 1, 0, 1, 1, 0]), (cd (Try.f14.body.getD .skip) [1, 0, 1, 0, 1, 1, 1, 1, 1, 1, 1, 1, 1, 1, 1, 1, 1, 1, 1, 1, 1, 0, 1, 1, 1])] (fun _ _ => False) (fun i => (bif Nat.beq i 0 then (s14_p1_den K) else (fun _ _ => False))) (s14_R K)
theorem s14_p24_ok (K : Value → World → Prop) (s : Nat → Value) (w : World) (h : s14_p24 K (s 0) (s 4) (s 10) (s 11) w) : Tr (s14_p24_den K s w) :=
  tr_simple (P := Try.prog) (codes := [(cd (Try.f14.body.getD .skip) [1, 0, 1, 0, 1, 1, 1, 1, 1, 1, 1, 1, 1, 1, 1, 1, 1, 1, 1, 1, 1, 0, 1, 0]), (cd (Try.f14.body.getD .skip) [1, 0, 1, 0, 1, 1, 1, 1, 1, 1, 1, 1, 1, 1, 1, 1, 1, 1, 1, 1, 1, 0, 1, 1, 0]), (cd (Try.f14.body.getD .skip) [1, 0, 1, 0, 1, 1, 1, 1, 1, 1, 1, 1, 1, 1, 1, 1, 1, 1, 1, 1, 1, 0, 1, 1, 1])]) (N := (fun _ _ => False)) (N' := (fun _ _ => False)) (X := (fun i => (bif Nat.beq i 0 then (fun s w => s14_p1 K (s 4) w) else (fun _ _ => False)))) (X' := (fun i => (bif Nat.beq i 0 then (s14_p1_den K) else (fun _ _ => False)))) (R := s14_R K) (s := s) (w := w) (p := s14_p24 K (s 0) (s 4) (s 10) (s 11) w) (q := s14_p24_den K s w) tr_id (fun i => (tr_bif (fun s w h => s14_p1_ok K s w @h) tr_id)) (by kernel_rfl) (by kernel_rfl) @h
def s14_p25_d (K : Value → World → Prop) (t0 t3 t4 : Value) (w0 w : World) : Prop :=
  nck t0 (fun t215 _ =>
  fd 0 t215 (fun t216 _ =>
  ld1 t216 (fun t217 _ =>
  fd 5 t3 (fun t218 _ =>
  ld1 t218 (fun t219 _ =>
  cl Try.prog 57 #[t217, t219] (fun t220 w =>
  (exq t220 0 (fun t221 w =>
  (exq t220 1 (fun t222 w =>
  s14_p24 K t0 t4 t221 t222 w) w) ∧
  (exq t220 1 (fun t222_2 w =>
  s14_p24 K t0 t4 t221 t222_2 w) w)) w) ∧
  (exq t220 1 (fun t222_3 w =>
  exq t220 0 (fun t221_2 w =>
  s14_p24 K t0 t4 t221_2 t222_3 w) w) w)) w) w0) w0) w0) w0) w0
def s14_p25 (K : Value → World → Prop) (t0 t3 t4 : Value) (w : World) : Prop := s14_p25_d K t0 t3 t4 (drw w) (drw w)
def s14_p25_den (K : Value → World → Prop) : (Nat → Value) → World → Prop := denL Try.prog [(cd (Try.f14.body.getD .skip) [1, 0, 1, 0, 1, 1, 1, 1, 1, 1, 1, 1, 1, 1, 1, 1, 1, 1, 1, 1, 1, 0, 0])] (s14_p24_den K) (fun i => (bif Nat.beq i 0 then (s14_p1_den K) else (fun _ _ => False))) (s14_R K)
theorem s14_p25_ok (K : Value → World → Prop) (s : Nat → Value) (w : World) (h : s14_p25 K (s 0) (s 3) (s 4) w) : Tr (s14_p25_den K s w) :=
  tr_draw (P := Try.prog) (ops := (ro (cd (Try.f14.body.getD .skip) [1, 0, 1, 0, 1, 1, 1, 1, 1, 1, 1, 1, 1, 1, 1, 1, 1, 1, 1, 1, 1, 0, 0]))) (ms := [0, 1, 3, 7, 0, 16, 63, 127, 255, 255, 511, 2047]) (cs := [0, 1, 2, 3, 4, 5]) (N := (fun s w => s14_p24 K (s 0) (s 4) (s 10) (s 11) w)) (N' := (s14_p24_den K)) (s := s) (w := w) (p := s14_p25 K (s 0) (s 3) (s 4) w) (q := s14_p25_den K s w) (by kernel_rfl) (by kernel_rfl) (fun s w h => s14_p24_ok K s w @h) (by kernel_rfl) (by kernel_rfl) @h
def s14_p26 (K : Value → World → Prop) (t4 : Value) (w : World) : Prop :=
  ldn 3 t4 (fun r0 _ =>
  K r0 w) w
def s14_p26_den (K : Value → World → Prop) : (Nat → Value) → World → Prop := denL Try.prog [(cd (Try.f14.body.getD .skip) [1, 0, 1, 0, 1, 1, 1, 1, 1, 1, 1, 1, 1, 1, 1, 1, 1, 1, 1, 1, 1, 1, 1, 0, 1])] (fun _ _ => False) (fun i => (bif Nat.beq i 0 then (s14_p1_den K) else (fun _ _ => False))) (s14_R K)
theorem s14_p26_ok (K : Value → World → Prop) (s : Nat → Value) (w : World) (h : s14_p26 K (s 4) w) : Tr (s14_p26_den K s w) :=
  tr_simple (P := Try.prog) (codes := [(cd (Try.f14.body.getD .skip) [1, 0, 1, 0, 1, 1, 1, 1, 1, 1, 1, 1, 1, 1, 1, 1, 1, 1, 1, 1, 1, 1, 1, 0, 1])]) (N := (fun _ _ => False)) (N' := (fun _ _ => False)) (X := (fun i => (bif Nat.beq i 0 then (fun s w => s14_p1 K (s 4) w) else (fun _ _ => False)))) (X' := (fun i => (bif Nat.beq i 0 then (s14_p1_den K) else (fun _ _ => False)))) (R := s14_R K) (s := s) (w := w) (p := s14_p26 K (s 4) w) (q := s14_p26_den K s w) tr_id (fun i => (tr_bif (fun s w h => s14_p1_ok K s w @h) tr_id)) (by kernel_rfl) (by kernel_rfl) @h
def s14_p27_d (K : Value → World → Prop) (t0 t3 t4 : Value) (w0 w : World) : Prop :=
  nck t0 (fun t233 _ =>
  fd 0 t233 (fun t234 _ =>
  ld1 t234 (fun t235 _ =>
  fd 5 t3 (fun t236 _ =>
  ld1 t236 (fun t237 _ =>
  cl Try.prog 18 #[t235, t237] (fun t238 w =>
  bdq [(.bool false), (.int .u64 0), (.slice none 0 0)] [(some (0, 1), t238)] (fun t239 w =>
  stn 3 t4 t239 (fun w =>
  s14_p26 K t4 w) w) w) w) w0) w0) w0) w0) w0
def s14_p27 (K : Value → World → Prop) (t0 t3 t4 : Value) (w : World) : Prop := s14_p27_d K t0 t3 t4 (drw w) (drw w)
def s14_p27_den (K : Value → World → Prop) : (Nat → Value) → World → Prop := denL Try.prog [(cd (Try.f14.body.getD .skip) [1, 0, 1, 0, 1, 1, 1, 1, 1, 1, 1, 1, 1, 1, 1, 1, 1, 1, 1, 1, 1, 1, 1, 0, 0])] (s14_p26_den K) (fun i => (bif Nat.beq i 0 then (s14_p1_den K) else (fun _ _ => False))) (s14_R K)
theorem s14_p27_ok (K : Value → World → Prop) (s : Nat → Value) (w : World) (h : s14_p27 K (s 0) (s 3) (s 4) w) : Tr (s14_p27_den K s w) :=
  tr_draw (P := Try.prog) (ops := (ro (cd (Try.f14.body.getD .skip) [1, 0, 1, 0, 1, 1, 1, 1, 1, 1, 1, 1, 1, 1, 1, 1, 1, 1, 1, 1, 1, 1, 1, 0, 0]))) (ms := [0, 1, 3, 7, 0, 16, 63, 127, 255]) (cs := [0, 1, 2, 3, 4, 5]) (N := (fun s w => s14_p26 K (s 4) w)) (N' := (s14_p26_den K)) (s := s) (w := w) (p := s14_p27 K (s 0) (s 3) (s 4) w) (q := s14_p27_den K s w) (by kernel_rfl) (by kernel_rfl) (fun s w h => s14_p26_ok K s w @h) (by kernel_rfl) (by kernel_rfl) @h
def s14_p28 (K : Value → World → Prop) (t0 t3 t4 t21 : Value) (w : World) : Prop :=
  boI .eql t21 (.int .i64 10) (fun t241 w =>
  ifb t241
  (fd 5 t3 (fun t243 w =>
  ld1 t243 (fun t244 w =>
  cl Try.prog 58 #[t244] (fun t245 w =>
  exq t245 0 (fun t246 w =>
  exq t245 1 (fun t247 w =>
  un .not t247 (fun t249 w =>
  ifb t249
  (bdq [(.bool false), (.int .u64 0), (.slice none 0 0)] [] (fun t250 w =>
  stn 3 t4 t250 (fun w =>
  ldn 3 t4 (fun r0 _ =>
  K r0 w) w) w) w)
  (nck t0 (fun t253 w =>
  fd 0 t253 (fun t254 w =>
  ld1 t254 (fun t255 w =>
  cl Try.prog 11 #[t255] (fun t256 w =>
  apq 5 [(.int .u8 0)] 1 t256 t246 (fun t258 w =>
  nck t0 (fun t259 w =>
  fd 0 t259 (fun t260 w =>
  st1 t260 t258 (fun w =>
  lnS t246 (fun t262 w =>
  cvi .u64 t262 (fun t263 w =>
  bdq [(.bool false), (.int .u64 0), (.slice none 0 0)] [(some (0, 1), (.bool true)), (some (1, 1), t263)] (fun t264 w =>
  stn 3 t4 t264 (fun w =>
  ldn 3 t4 (fun r0 _ =>
  K r0 w) w) w) w) w) w) w) w) w) w) w) w) w) w)) w) w) w) w) w) w)
  (boI .eql t21 (.int .i64 11) (fun t266 w =>
  ifb t266
  (nck t0 (fun t269 w =>
  fd 0 t269 (fun t270 w =>
  ld1 t270 (fun t271 w =>
  cl Try.prog 11 #[t271] (fun t272 w =>
  nck t0 (fun t273 w =>
  fd 1 t273 (fun t274 w =>
  st1 t274 t272 (fun w =>
  nck t0 (fun t276 w =>
  fd 2 t276 (fun t277 w =>
  st1 t277 (.bool false) (fun w =>
  bdq [(.bool false), (.int .u64 0), (.slice none 0 0)] [(some (0, 1), (.bool true))] (fun t278 w =>
  stn 3 t4 t278 (fun w =>
  ldn 3 t4 (fun r0 _ =>
  K r0 w) w) w) w) w) w) w) w) w) w) w) w) w) w)
  (boI .eql t21 (.int .i64 12) (fun t280 w =>
  ifb t280
  (fd 1 t3 (fun t281 w =>
  ld1 t281 (fun t282 w =>
  cl Try.prog 50 #[t282] (fun t283 w =>
  un .not t283 (fun t284 w =>
  ifb t284
  (bdq [(.bool false), (.int .u64 0), (.slice none 0 0)] [] (fun t285 w =>
  stn 3 t4 t285 (fun w =>
  ldn 3 t4 (fun r0 _ =>
  K r0 w) w) w) w)
  (fd 1 t3 (fun t288 w =>
  ld1 t288 (fun t289 w =>
  cl Try.prog 59 #[t0, t289] (fun t290 w =>
  exq t290 0 (fun t291 w =>
  exq t290 1 (fun t292 w =>
  un .not t292 (fun t294 w =>
  ifb t294
  (bdq [(.bool false), (.int .u64 0), (.slice none 0 0)] [] (fun t295 w =>
  stn 3 t4 t295 (fun w =>
  ldn 3 t4 (fun r0 _ =>
  K r0 w) w) w) w)
  (fd 2 t3 (fun t297 w =>
  ld1 t297 (fun t298 w =>
  cl Try.prog 52 #[t291, t298] (fun t299 w =>
  bdq [(.bool false), (.int .u64 0), (.slice none 0 0)] [(some (0, 1), (.bool true)), (some (1, 1), t299)] (fun t300 w =>
  stn 3 t4 t300 (fun w =>
  ldn 3 t4 (fun r0 _ =>
  K r0 w) w) w) w) w) w) w)) w) w) w) w) w) w)) w) w) w) w)
  (boI .eql t21 (.int .i64 13) (fun t302 w =>
  ifb t302
  (fd 3 t3 (fun t305 w =>
  ld1 t305 (fun t306 w =>
  cl Try.prog 59 #[t0, t306] (fun t307 w =>
  exq t307 0 (fun t308 w =>
  exq t307 1 (fun t309 w =>
  un .not t309 (fun t311 w =>
  ifb t311
  (bdq [(.bool false), (.int .u64 0), (.slice none 0 0)] [] (fun t312 w =>
  stn 3 t4 t312 (fun w =>
  ldn 3 t4 (fun r0 _ =>
  K r0 w) w) w) w)
  (bdq [(.bool false), (.int .u64 0), (.slice none 0 0)] [(some (0, 1), (.bool true)), (some (2, 1), t308)] (fun t314 w =>
  stn 3 t4 t314 (fun w =>
  ldn 3 t4 (fun r0 _ =>
  K r0 w) w) w) w)) w) w) w) w) w) w)
  (boI .eql t21 (.int .i64 14) (fun t316 w =>
  ifb t316
  (fd 3 t3 (fun t319 w =>
  ld1 t319 (fun t320 w =>
  cl Try.prog 59 #[t0, t320] (fun t321 w =>
  exq t321 0 (fun t322 w =>
  exq t321 1 (fun t323 w =>
  bdq [(.bool false), (.int .u64 0), (.slice none 0 0)] [(some (0, 1), t323)] (fun t325 w =>
  stn 3 t4 t325 (fun w =>
  ldn 3 t4 (fun r0 _ =>
  K r0 w) w) w) w) w) w) w) w) w)
  (s14_p1 K t4 w)) w)) w)) w)) w)) w
def s14_p28_den (K : Value → World → Prop) : (Nat → Value) → World → Prop := denL Try.prog [(cd (Try.f14.body.getD .skip) [1, 0, 1, 0, 1, 1, 1, 1, 1, 1, 1, 1, 1, 1, 1, 1, 1, 1, 1, 1, 1, 1, 1, 1, 0]), (cd (Try.f14.body.getD .skip) [1, 0, 1, 0, 1, 1, 1, 1, 1, 1, 1, 1, 1, 1, 1, 1, 1, 1, 1, 1, 1, 1, 1, 1, 1])] (s14_p1_den K) (fun i => (bif Nat.beq i 0 then (s14_p1_den K) else (fun _ _ => False))) (s14_R K)
theorem s14_p28_ok (K : Value → World → Prop) (s : Nat → Value) (w : World) (h : s14_p28 K (s 0) (s 3) (s 4) (s 21) w) : Tr (s14_p28_den K s w) :=
  tr_simple (P := Try.prog) (codes := [(cd (Try.f14.body.getD .skip) [1, 0, 1, 0, 1, 1, 1, 1, 1, 1, 1, 1, 1, 1, 1, 1, 1, 1, 1, 1, 1, 1, 1, 1, 0]), (cd (Try.f14.body.getD .skip) [1, 0, 1, 0, 1, 1, 1, 1, 1, 1, 1, 1, 1, 1, 1, 1, 1, 1, 1, 1, 1, 1, 1, 1, 1])]) (N := (fun s w => s14_p1 K (s 4) w)) (N' := (s14_p1_den K)) (X := (fun i => (bif Nat.beq i 0 then (fun s w => s14_p1 K (s 4) w) else (fun _ _ => False)))) (X' := (fun i => (bif Nat.beq i 0 then (s14_p1_den K) else (fun _ _ => False)))) (R := s14_R K) (s := s) (w := w) (p := s14_p28 K (s 0) (s 3) (s 4) (s 21) w) (q := s14_p28_den K s w) (fun s w h => s14_p1_ok K s w @h) (fun i => (tr_bif (fun s w h => s14_p1_ok K s w @h) tr_id)) (by kernel_rfl) (by kernel_rfl) @h
def s14_p29 (K : Value → World → Prop) (t0 t3 t4 t21 t230 : Value) (w : World) : Prop :=
  ifb t230
  (s14_p27 K t0 t3 t4 w)
  (s14_p28 K t0 t3 t4 t21 w)
def s14_p29_den (K : Value → World → Prop) : (Nat → Value) → World → Prop := fun s w => ifb (ev s (.tmp 230)) ((s14_p27_den K) s w) ((s14_p28_den K) s w)
theorem s14_p29_ok (K : Value → World → Prop) (s : Nat → Value) (w : World) (h : s14_p29 K (s 0) (s 3) (s 4) (s 21) (s 230) w) : Tr (s14_p29_den K s w) :=
  tr_cond (v := ev s (.tmp 230)) (a := (fun s w => s14_p27 K (s 0) (s 3) (s 4) w) s w) (a' := (s14_p27_den K) s w) (b := (fun s w => s14_p28 K (s 0) (s 3) (s 4) (s 21) w) s w) (b' := (s14_p28_den K) s w) (p := s14_p29 K (s 0) (s 3) (s 4) (s 21) (s 230) w) (q := s14_p29_den K s w) ((fun s w h => s14_p27_ok K s w @h) s w) ((fun s w h => s14_p28_ok K s w @h) s w) (by kernel_rfl) (by kernel_rfl) @h
def s14_p30 (K : Value → World → Prop) (t0 t3 t4 t21 : Value) (w : World) : Prop :=
  boI .eql t21 (.int .i64 9) (fun t231 w =>
  s14_p29 K t0 t3 t4 t21 t231 w) w
def s14_p30_den (K : Value → World → Prop) : (Nat → Value) → World → Prop := denL Try.prog [(cd (Try.f14.body.getD .skip) [1, 0, 1, 0, 1, 1, 1, 1, 1, 1, 1, 1, 1, 1, 1, 1, 1, 1, 1, 1, 1, 1, 0])] (s14_p29_den K) (fun i => (bif Nat.beq i 0 then (s14_p1_den K) else (fun _ _ => False))) (s14_R K)
theorem s14_p30_ok (K : Value → World → Prop) (s : Nat → Value) (w : World) (h : s14_p30 K (s 0) (s 3) (s 4) (s 21) w) : Tr (s14_p30_den K s w) :=
  tr_simple (P := Try.prog) (codes := [(cd (Try.f14.body.getD .skip) [1, 0, 1, 0, 1, 1, 1, 1, 1, 1, 1, 1, 1, 1, 1, 1, 1, 1, 1, 1, 1, 1, 0])]) (N := (fun s w => s14_p29 K (s 0) (s 3) (s 4) (s 21) (s 230) w)) (N' := (s14_p29_den K)) (X := (fun i => (bif Nat.beq i 0 then (fun s w => s14_p1 K (s 4) w) else (fun _ _ => False)))) (X' := (fun i => (bif Nat.beq i 0 then (s14_p1_den K) else (fun _ _ => False)))) (R := s14_R K) (s := s) (w := w) (p := s14_p30 K (s 0) (s 3) (s 4) (s 21) w) (q := s14_p30_den K s w) (fun s w h => s14_p29_ok K s w @h) (fun i => (tr_bif (fun s w h => s14_p1_ok K s w @h) tr_id)) (by kernel_rfl) (by kernel_rfl) @h
def s14_p31 (K : Value → World → Prop) (t0 t3 t4 t21 t211 : Value) (w : World) : Prop :=
  ifb t211
  (s14_p25 K t0 t3 t4 w)
  (s14_p30 K t0 t3 t4 t21 w)
def s14_p31_den (K : Value → World → Prop) : (Nat → Value) → World → Prop := fun s w => ifb (ev s (.tmp 211)) ((s14_p25_den K) s w) ((s14_p30_den K) s w)
theorem s14_p31_ok (K : Value → World → Prop) (s : Nat → Value) (w : World) (h : s14_p31 K (s 0) (s 3) (s 4) (s 21) (s 211) w) : Tr (s14_p31_den K s w) :=
  tr_cond (v := ev s (.tmp 211)) (a := (fun s w => s14_p25 K (s 0) (s 3) (s 4) w) s w) (a' := (s14_p25_den K) s w) (b := (fun s w => s14_p30 K (s 0) (s 3) (s 4) (s 21) w) s w) (b' := (s14_p30_den K) s w) (p := s14_p31 K (s 0) (s 3) (s 4) (s 21) (s 211) w) (q := s14_p31_den K s w) ((fun s w h => s14_p25_ok K s w @h) s w) ((fun s w h => s14_p30_ok K s w @h) s w) (by kernel_rfl) (by kernel_rfl) @h
def s14_p32 (K : Value → World → Prop) (t0 t3 t4 t21 : Value) (w : World) : Prop :=
  boI .eql t21 (.int .i64 8) (fun t212 w =>
  s14_p31 K t0 t3 t4 t21 t212 w) w
def s14_p32_den (K : Value → World → Prop) : (Nat → Value) → World → Prop := denL Try.prog [(cd (Try.f14.body.getD .skip) [1, 0, 1, 0, 1, 1, 1, 1, 1, 1, 1, 1, 1, 1, 1, 1, 1, 1, 1, 1, 0])] (s14_p31_den K) (fun i => (bif Nat.beq i 0 then (s14_p1_den K) else (fun _ _ => False))) (s14_R K)
theorem s14_p32_ok (K : Value → World → Prop) (s : Nat → Value) (w : World) (h : s14_p32 K (s 0) (s 3) (s 4) (s 21) w) : Tr (s14_p32_den K s w) :=
  tr_simple (P := Try.prog) (codes := [(cd (Try.f14.body.getD .skip) [1, 0, 1, 0, 1, 1, 1, 1, 1, 1, 1, 1, 1, 1, 1, 1, 1, 1, 1, 1, 0])]) (N := (fun s w => s14_p31 K (s 0) (s 3) (s 4) (s 21) (s 211) w)) (N' := (s14_p31_den K)) (X := (fun i => (bif Nat.beq i 0 then (fun s w => s14_p1 K (s 4) w) else (fun _ _ => False)))) (X' := (fun i => (bif Nat.beq i 0 then (s14_p1_den K) else (fun _ _ => False)))) (R := s14_R K) (s := s) (w := w) (p := s14_p32 K (s 0) (s 3) (s 4) (s 21) w) (q := s14_p32_den K s w) (fun s w h => s14_p31_ok K s w @h) (fun i => (tr_bif (fun s w h => s14_p1_ok K s w @h) tr_id)) (by kernel_rfl) (by kernel_rfl) @h
def s14_p33 (K : Value → World → Prop) (t0 t3 t4 t21 t190 : Value) (w : World) : Prop :=
  ifb t190
  (s14_p23 K t0 t3 t4 w)
  (s14_p32 K t0 t3 t4 t21 w)
def s14_p33_den (K : Value → World → Prop) : (Nat → Value) → World → Prop := fun s w => ifb (ev s (.tmp 190)) ((s14_p23_den K) s w) ((s14_p32_den K) s w)
theorem s14_p33_ok (K : Value → World → Prop) (s : Nat → Value) (w : World) (h : s14_p33 K (s 0) (s 3) (s 4) (s 21) (s 190) w) : Tr (s14_p33_den K s w) :=
  tr_cond (v := ev s (.tmp 190)) (a := (fun s w => s14_p23 K (s 0) (s 3) (s 4) w) s w) (a' := (s14_p23_den K) s w) (b := (fun s w => s14_p32 K (s 0) (s 3) (s 4) (s 21) w) s w) (b' := (s14_p32_den K) s w) (p := s14_p33 K (s 0) (s 3) (s 4) (s 21) (s 190) w) (q := s14_p33_den K s w) ((fun s w h => s14_p23_ok K s w @h) s w) ((fun s w h => s14_p32_ok K s w @h) s w) (by kernel_rfl) (by kernel_rfl) @h
def s14_p34 (K : Value → World → Prop) (t0 t3 t4 t21 : Value) (w : World) : Prop :=
  boI .eql t21 (.int .i64 7) (fun t191 w =>
  s14_p33 K t0 t3 t4 t21 t191 w) w
def s14_p34_den (K : Value → World → Prop) : (Nat → Value) → World → Prop := denL Try.prog [(cd (Try.f14.body.getD .skip) [1, 0, 1, 0, 1, 1, 1, 1, 1, 1, 1, 1, 1, 1, 1, 1, 1, 1, 0])] (s14_p33_den K) (fun i => (bif Nat.beq i 0 then (s14_p1_den K) else (fun _ _ => False))) (s14_R K)
theorem s14_p34_ok (K : Value → World → Prop) (s : Nat → Value) (w : World) (h : s14_p34 K (s 0) (s 3) (s 4) (s 21) w) : Tr (s14_p34_den K s w) :=
  tr_simple (P := Try.prog) (codes := [(cd (Try.f14.body.getD .skip) [1, 0, 1, 0, 1, 1, 1, 1, 1, 1, 1, 1, 1, 1, 1, 1, 1, 1, 0])]) (N := (fun s w => s14_p33 K (s 0) (s 3) (s 4) (s 21) (s 190) w)) (N' := (s14_p33_den K)) (X := (fun i => (bif Nat.beq i 0 then (fun s w => s14_p1 K (s 4) w) else (fun _ _ => False)))) (X' := (fun i => (bif Nat.beq i 0 then (s14_p1_den K) else (fun _ _ => False)))) (R := s14_R K) (s := s) (w := w) (p := s14_p34 K (s 0) (s 3) (s 4) (s 21) w) (q := s14_p34_den K s w) (fun s w h => s14_p33_ok K s w @h) (fun i => (tr_bif (fun s w h => s14_p1_ok K s w @h) tr_id)) (by kernel_rfl) (by kernel_rfl) @h
def s14_p35 (K : Value → World → Prop) (t0 t3 t4 t21 t170 : Value) (w : World) : Prop :=
  ifb t170
  (s14_p21 K t0 t3 t4 w)
  (s14_p34 K t0 t3 t4 t21 w)
def s14_p35_den (K : Value → World → Prop) : (Nat → Value) → World → Prop := fun s w => ifb (ev s (.tmp 170)) ((s14_p21_den K) s w) ((s14_p34_den K) s w)
theorem s14_p35_ok (K : Value → World → Prop) (s : Nat → Value) (w : World) (h : s14_p35 K (s 0) (s 3) (s 4) (s 21) (s 170) w) : Tr (s14_p35_den K s w) :=
  tr_cond (v := ev s (.tmp 170)) (a := (fun s w => s14_p21 K (s 0) (s 3) (s 4) w) s w) (a' := (s14_p21_den K) s w) (b := (fun s w => s14_p34 K (s 0) (s 3) (s 4) (s 21) w) s w) (b' := (s14_p34_den K) s w) (p := s14_p35 K (s 0) (s 3) (s 4) (s 21) (s 170) w) (q := s14_p35_den K s w) ((fun s w h => s14_p21_ok K s w @h) s w) ((fun s w h => s14_p34_ok K s w @h) s w) (by kernel_rfl) (by kernel_rfl) @h
def s14_p36 (K : Value → World → Prop) (t0 t3 t4 t21 : Value) (w : World) : Prop :=
  boI .eql t21 (.int .i64 6) (fun t171 w =>
  s14_p35 K t0 t3 t4 t21 t171 w) w
def s14_p36_den (K : Value → World → Prop) : (Nat → Value) → World → Prop := denL Try.prog [(cd (Try.f14.body.getD .skip) [1, 0, 1, 0, 1, 1, 1, 1, 1, 1, 1, 1, 1, 1, 1, 1, 0])] (s14_p35_den K) (fun i => (bif Nat.beq i 0 then (s14_p1_den K) else (fun _ _ => False))) (s14_R K)
theorem s14_p36_ok (K : Value → World → Prop) (s : Nat → Value) (w : World) (h : s14_p36 K (s 0) (s 3) (s 4) (s 21) w) : Tr (s14_p36_den K s w) :=
  tr_simple (P := Try.prog) (codes := [(cd (Try.f14.body.getD .skip) [1, 0, 1, 0, 1, 1, 1, 1, 1, 1, 1, 1, 1, 1, 1, 1, 0])]) (N := (fun s w => s14_p35 K (s 0) (s 3) (s 4) (s 21) (s 170) w)) (N' := (s14_p35_den K)) (X := (fun i => (bif Nat.beq i 0 then (fun s w => s14_p1 K (s 4) w) else (fun _ _ => False)))) (X' := (fun i => (bif Nat.beq i 0 then (s14_p1_den K) else (fun _ _ => False)))) (R := s14_R K) (s := s) (w := w) (p := s14_p36 K (s 0) (s 3) (s 4) (s 21) w) (q := s14_p36_den K s w) (fun s w h => s14_p35_ok K s w @h) (fun i => (tr_bif (fun s w h => s14_p1_ok K s w @h) tr_id)) (by kernel_rfl) (by kernel_rfl) @h
def s14_p37 (K : Value → World → Prop) (t0 t3 t4 t21 t157 : Value) (w : World) : Prop :=
  ifb t157
  (s14_p19 K t0 t3 t4 w)
  (s14_p36 K t0 t3 t4 t21 w)
def s14_p37_den (K : Value → World → Prop) : (Nat → Value) → World → Prop := fun s w => ifb (ev s (.tmp 157)) ((s14_p19_den K) s w) ((s14_p36_den K) s w)
theorem s14_p37_ok (K : Value → World → Prop) (s : Nat → Value) (w : World) (h : s14_p37 K (s 0) (s 3) (s 4) (s 21) (s 157) w) : Tr (s14_p37_den K s w) :=
  tr_cond (v := ev s (.tmp 157)) (a := (fun s w => s14_p19 K (s 0) (s 3) (s 4) w) s w) (a' := (s14_p19_den K) s w) (b := (fun s w => s14_p36 K (s 0) (s 3) (s 4) (s 21) w) s w) (b' := (s14_p36_den K) s w) (p := s14_p37 K (s 0) (s 3) (s 4) (s 21) (s 157) w) (q := s14_p37_den K s w) ((fun s w h => s14_p19_ok K s w @h) s w) ((fun s w h => s14_p36_ok K s w @h) s w) (by kernel_rfl) (by kernel_rfl) @h
def s14_p38 (K : Value → World → Prop) (t0 t3 t4 t21 : Value) (w : World) : Prop :=
  boI .eql t21 (.int .i64 5) (fun t158 w =>
  s14_p37 K t0 t3 t4 t21 t158 w) w
def s14_p38_den (K : Value → World → Prop) : (Nat → Value) → World → Prop := denL Try.prog [(cd (Try.f14.body.getD .skip) [1, 0, 1, 0, 1, 1, 1, 1, 1, 1, 1, 1, 1, 1, 0])] (s14_p37_den K) (fun i => (bif Nat.beq i 0 then (s14_p1_den K) else (fun _ _ => False))) (s14_R K)
theorem s14_p38_ok (K : Value → World → Prop) (s : Nat → Value) (w : World) (h : s14_p38 K (s 0) (s 3) (s 4) (s 21) w) : Tr (s14_p38_den K s w) :=
  tr_simple (P := Try.prog) (codes := [(cd (Try.f14.body.getD .skip) [1, 0, 1, 0, 1, 1, 1, 1, 1, 1, 1, 1, 1, 1, 0])]) (N := (fun s w => s14_p37 K (s 0) (s 3) (s 4) (s 21) (s 157) w)) (N' := (s14_p37_den K)) (X := (fun i => (bif Nat.beq i 0 then (fun s w => s14_p1 K (s 4) w) else (fun _ _ => False)))) (X' := (fun i => (bif Nat.beq i 0 then (s14_p1_den K) else (fun _ _ => False)))) (R := s14_R K) (s := s) (w := w) (p := s14_p38 K (s 0) (s 3) (s 4) (s 21) w) (q := s14_p38_den K s w) (fun s w h => s14_p37_ok K s w @h) (fun i => (tr_bif (fun s w h => s14_p1_ok K s w @h) tr_id)) (by kernel_rfl) (by kernel_rfl) @h
def s14_p39 (K : Value → World → Prop) (t0 t3 t4 t21 t144 : Value) (w : World) : Prop :=
  ifb t144
  (s14_p17 K t0 t3 t4 w)
  (s14_p38 K t0 t3 t4 t21 w)
def s14_p39_den (K : Value → World → Prop) : (Nat → Value) → World → Prop := fun s w => ifb (ev s (.tmp 144)) ((s14_p17_den K) s w) ((s14_p38_den K) s w)
theorem s14_p39_ok (K : Value → World → Prop) (s : Nat → Value) (w : World) (h : s14_p39 K (s 0) (s 3) (s 4) (s 21) (s 144) w) : Tr (s14_p39_den K s w) :=
  tr_cond (v := ev s (.tmp 144)) (a := (fun s w => s14_p17 K (s 0) (s 3) (s 4) w) s w) (a' := (s14_p17_den K) s w) (b := (fun s w => s14_p38 K (s 0) (s 3) (s 4) (s 21) w) s w) (b' := (s14_p38_den K) s w) (p := s14_p39 K (s 0) (s 3) (s 4) (s 21) (s 144) w) (q := s14_p39_den K s w) ((fun s w h => s14_p17_ok K s w @h) s w) ((fun s w h => s14_p38_ok K s w @h) s w) (by kernel_rfl) (by kernel_rfl) @h
def s14_p40 (K : Value → World → Prop) (t0 t3 t4 t21 : Value) (w : World) : Prop :=
  boI .eql t21 (.int .i64 4) (fun t145 w =>
  s14_p39 K t0 t3 t4 t21 t145 w) w
def s14_p40_den (K : Value → World → Prop) : (Nat → Value) → World → Prop := denL Try.prog [(cd (Try.f14.body.getD .skip) [1, 0, 1, 0, 1, 1, 1, 1, 1, 1, 1, 1, 0])] (s14_p39_den K) (fun i => (bif Nat.beq i 0 then (s14_p1_den K) else (fun _ _ => False))) (s14_R K)
theorem s14_p40_ok (K : Value → World → Prop) (s : Nat → Value) (w : World) (h : s14_p40 K (s 0) (s 3) (s 4) (s 21) w) : Tr (s14_p40_den K s w) :=
  tr_simple (P := Try.prog) (codes := [(cd (Try.f14.body.getD .skip) [1, 0, 1, 0, 1, 1, 1, 1, 1, 1, 1, 1, 0])]) (N := (fun s w => s14_p39 K (s 0) (s 3) (s 4) (s 21) (s 144) w)) (N' := (s14_p39_den K)) (X := (fun i => (bif Nat.beq i 0 then (fun s w => s14_p1 K (s 4) w) else (fun _ _ => False)))) (X' := (fun i => (bif Nat.beq i 0 then (s14_p1_den K) else (fun _ _ => False)))) (R := s14_R K) (s := s) (w := w) (p := s14_p40 K (s 0) (s 3) (s 4) (s 21) w) (q := s14_p40_den K s w) (fun s w h => s14_p39_ok K s w @h) (fun i => (tr_bif (fun s w h => s14_p1_ok K s w @h) tr_id)) (by kernel_rfl) (by kernel_rfl) @h
def s14_p41 (K : Value → World → Prop) (t0 t3 t4 t21 t120 : Value) (w : World) : Prop :=
  ifb t120
  (s14_p15 K t0 t3 t4 w)
  (s14_p40 K t0 t3 t4 t21 w)
def s14_p41_den (K : Value → World → Prop) : (Nat → Value) → World → Prop := fun s w => ifb (ev s (.tmp 120)) ((s14_p15_den K) s w) ((s14_p40_den K) s w)
theorem s14_p41_ok (K : Value → World → Prop) (s : Nat → Value) (w : World) (h : s14_p41 K (s 0) (s 3) (s 4) (s 21) (s 120) w) : Tr (s14_p41_den K s w) :=
  tr_cond (v := ev s (.tmp 120)) (a := (fun s w => s14_p15 K (s 0) (s 3) (s 4) w) s w) (a' := (s14_p15_den K) s w) (b := (fun s w => s14_p40 K (s 0) (s 3) (s 4) (s 21) w) s w) (b' := (s14_p40_den K) s w) (p := s14_p41 K (s 0) (s 3) (s 4) (s 21) (s 120) w) (q := s14_p41_den K s w) ((fun s w h => s14_p15_ok K s w @h) s w) ((fun s w h => s14_p40_ok K s w @h) s w) (by kernel_rfl) (by kernel_rfl) @h
def s14_p42 (K : Value → World → Prop) (t0 t3 t4 t21 : Value) (w : World) : Prop :=
  boI .eql t21 (.int .i64 3) (fun t121 w =>
  s14_p41 K t0 t3 t4 t21 t121 w) w
def s14_p42_den (K : Value → World → Prop) : (Nat → Value) → World → Prop := denL Try.prog [(cd (Try.f14.body.getD .skip) [1, 0, 1, 0, 1, 1, 1, 1, 1, 1, 0])] (s14_p41_den K) (fun i => (bif Nat.beq i 0 then (s14_p1_den K) else (fun _ _ => False))) (s14_R K)
theorem s14_p42_ok (K : Value → World → Prop) (s : Nat → Value) (w : World) (h : s14_p42 K (s 0) (s 3) (s 4) (s 21) w) : Tr (s14_p42_den K s w) :=
  tr_simple (P := Try.prog) (codes := [(cd (Try.f14.body.getD .skip) [1, 0, 1, 0, 1, 1, 1, 1, 1, 1, 0])]) (N := (fun s w => s14_p41 K (s 0) (s 3) (s 4) (s 21) (s 120) w)) (N' := (s14_p41_den K)) (X := (fun i => (bif Nat.beq i 0 then (fun s w => s14_p1 K (s 4) w) else (fun _ _ => False)))) (X' := (fun i => (bif Nat.beq i 0 then (s14_p1_den K) else (fun _ _ => False)))) (R := s14_R K) (s := s) (w := w) (p := s14_p42 K (s 0) (s 3) (s 4) (s 21) w) (q := s14_p42_den K s w) (fun s w h => s14_p41_ok K s w @h) (fun i => (tr_bif (fun s w h => s14_p1_ok K s w @h) tr_id)) (by kernel_rfl) (by kernel_rfl) @h
def s14_p43 (K : Value → World → Prop) (t0 t3 t4 t21 t67 : Value) (w : World) : Prop :=
  ifb t67
  (s14_p12 K t0 t3 t4 w)
  (s14_p42 K t0 t3 t4 t21 w)
def s14_p43_den (K : Value → World → Prop) : (Nat → Value) → World → Prop := fun s w => ifb (ev s (.tmp 67)) ((s14_p12_den K) s w) ((s14_p42_den K) s w)
theorem s14_p43_ok (K : Value → World → Prop) (s : Nat → Value) (w : World) (h : s14_p43 K (s 0) (s 3) (s 4) (s 21) (s 67) w) : Tr (s14_p43_den K s w) :=
  tr_cond (v := ev s (.tmp 67)) (a := (fun s w => s14_p12 K (s 0) (s 3) (s 4) w) s w) (a' := (s14_p12_den K) s w) (b := (fun s w => s14_p42 K (s 0) (s 3) (s 4) (s 21) w) s w) (b' := (s14_p42_den K) s w) (p := s14_p43 K (s 0) (s 3) (s 4) (s 21) (s 67) w) (q := s14_p43_den K s w) ((fun s w h => s14_p12_ok K s w @h) s w) ((fun s w h => s14_p42_ok K s w @h) s w) (by kernel_rfl) (by kernel_rfl) @h
def s14_p44 (K : Value → World → Prop) (t0 t3 t4 t21 : Value) (w : World) : Prop :=
  boI .eql t21 (.int .i64 2) (fun t68 w =>
  s14_p43 K t0 t3 t4 t21 t68 w) w
def s14_p44_den (K : Value → World → Prop) : (Nat → Value) → World → Prop := denL Try.prog [(cd (Try.f14.body.getD .skip) [1, 0, 1, 0, 1, 1, 1, 1, 0])] (s14_p43_den K) (fun i => (bif Nat.beq i 0 then (s14_p1_den K) else (fun _ _ => False))) (s14_R K)
theorem s14_p44_ok (K : Value → World → Prop) (s : Nat → Value) (w : World) (h : s14_p44 K (s 0) (s 3) (s 4) (s 21) w) : Tr (s14_p44_den K s w) :=
  tr_simple (P := Try.prog) (codes := [(cd (Try.f14.body.getD .skip) [1, 0, 1, 0, 1, 1, 1, 1, 0])]) (N := (fun s w => s14_p43 K (s 0) (s 3) (s 4) (s 21) (s 67) w)) (N' := (s14_p43_den K)) (X := (fun i => (bif Nat.beq i 0 then (fun s w => s14_p1 K (s 4) w) else (fun _ _ => False)))) (X' := (fun i => (bif Nat.beq i 0 then (s14_p1_den K) else (fun _ _ => False)))) (R := s14_R K) (s := s) (w := w) (p := s14_p44 K (s 0) (s 3) (s 4) (s 21) w) (q := s14_p44_den K s w) (fun s w h => s14_p43_ok K s w @h) (fun i => (tr_bif (fun s w h => s14_p1_ok K s w @h) tr_id)) (by kernel_rfl) (by kernel_rfl) @h
def s14_p45 (K : Value → World → Prop) (t0 t3 t4 t21 t31 : Value) (w : World) : Prop :=
  ifb t31
  (s14_p6 K t0 t3 t4 w)
  (s14_p44 K t0 t3 t4 t21 w)
def s14_p45_den (K : Value → World → Prop) : (Nat → Value) → World → Prop := fun s w => ifb (ev s (.tmp 31)) ((s14_p6_den K) s w) ((s14_p44_den K) s w)
theorem s14_p45_ok (K : Value → World → Prop) (s : Nat → Value) (w : World) (h : s14_p45 K (s 0) (s 3) (s 4) (s 21) (s 31) w) : Tr (s14_p45_den K s w) :=
  tr_cond (v := ev s (.tmp 31)) (a := (fun s w => s14_p6 K (s 0) (s 3) (s 4) w) s w) (a' := (s14_p6_den K) s w) (b := (fun s w => s14_p44 K (s 0) (s 3) (s 4) (s 21) w) s w) (b' := (s14_p44_den K) s w) (p := s14_p45 K (s 0) (s 3) (s 4) (s 21) (s 31) w) (q := s14_p45_den K s w) ((fun s w h => s14_p6_ok K s w @h) s w) ((fun s w h => s14_p44_ok K s w @h) s w) (by kernel_rfl) (by kernel_rfl) @h
def s14_p46 (K : Value → World → Prop) (t0 t3 t4 t21 : Value) (w : World) : Prop :=
  boI .eql t21 (.int .i64 1) (fun t32 w =>
  s14_p45 K t0 t3 t4 t21 t32 w) w
def s14_p46_den (K : Value → World → Prop) : (Nat → Value) → World → Prop := denL Try.prog [(cd (Try.f14.body.getD .skip) [1, 0, 1, 0, 1, 1, 0])] (s14_p45_den K) (fun i => (bif Nat.beq i 0 then (s14_p1_den K) else (fun _ _ => False))) (s14_R K)
theorem s14_p46_ok (K : Value → World → Prop) (s : Nat → Value) (w : World) (h : s14_p46 K (s 0) (s 3) (s 4) (s 21) w) : Tr (s14_p46_den K s w) :=
  tr_simple (P := Try.prog) (codes := [(cd (Try.f14.body.getD .skip) [1, 0, 1, 0, 1, 1, 0])]) (N := (fun s w => s14_p45 K (s 0) (s 3) (s 4) (s 21) (s 31) w)) (N' := (s14_p45_den K)) (X := (fun i => (bif Nat.beq i 0 then (fun s w => s14_p1 K (s 4) w) else (fun _ _ => False)))) (X' := (fun i => (bif Nat.beq i 0 then (s14_p1_den K) else (fun _ _ => False)))) (R := s14_R K) (s := s) (w := w) (p := s14_p46 K (s 0) (s 3) (s 4) (s 21) w) (q := s14_p46_den K s w) (fun s w h => s14_p45_ok K s w @h) (fun i => (tr_bif (fun s w h => s14_p1_ok K s w @h) tr_id)) (by kernel_rfl) (by kernel_rfl) @h
def s14_p47 (K : Value → World → Prop) (t0 t3 t4 t21 t22 : Value) (w : World) : Prop :=
  ifb t22
  (s14_p2 K t0 t3 t4 w)
  (s14_p46 K t0 t3 t4 t21 w)
def s14_p47_den (K : Value → World → Prop) : (Nat → Value) → World → Prop := fun s w => ifb (ev s (.tmp 22)) ((s14_p2_den K) s w) ((s14_p46_den K) s w)
theorem s14_p47_ok (K : Value → World → Prop) (s : Nat → Value) (w : World) (h : s14_p47 K (s 0) (s 3) (s 4) (s 21) (s 22) w) : Tr (s14_p47_den K s w) :=
  tr_cond (v := ev s (.tmp 22)) (a := (fun s w => s14_p2 K (s 0) (s 3) (s 4) w) s w) (a' := (s14_p2_den K) s w) (b := (fun s w => s14_p46 K (s 0) (s 3) (s 4) (s 21) w) s w) (b' := (s14_p46_den K) s w) (p := s14_p47 K (s 0) (s 3) (s 4) (s 21) (s 22) w) (q := s14_p47_den K s w) ((fun s w h => s14_p2_ok K s w @h) s w) ((fun s w h => s14_p46_ok K s w @h) s w) (by kernel_rfl) (by kernel_rfl) @h
def s14_p48 (K : Value → World → Prop) (t0 t3 t4 t21 : Value) (w : World) : Prop :=
  boI .eql t21 (.int .i64 0) (fun t23 w =>
  s14_p47 K t0 t3 t4 t21 t23 w) w
def s14_p48_den (K : Value → World → Prop) : (Nat → Value) → World → Prop := denL Try.prog [(cd (Try.f14.body.getD .skip) [1, 0, 1, 0, 0])] (s14_p47_den K) (fun i => (bif Nat.beq i 0 then (s14_p1_den K) else (fun _ _ => False))) (s14_R K)
theorem s14_p48_ok (K : Value → World → Prop) (s : Nat → Value) (w : World) (h : s14_p48 K (s 0) (s 3) (s 4) (s 21) w) : Tr (s14_p48_den K s w) :=
  tr_simple (P := Try.prog) (codes := [(cd (Try.f14.body.getD .skip) [1, 0, 1, 0, 0])]) (N := (fun s w => s14_p47 K (s 0) (s 3) (s 4) (s 21) (s 22) w)) (N' := (s14_p47_den K)) (X := (fun i => (bif Nat.beq i 0 then (fun s w => s14_p1 K (s 4) w) else (fun _ _ => False)))) (X' := (fun i => (bif Nat.beq i 0 then (s14_p1_den K) else (fun _ _ => False)))) (R := s14_R K) (s := s) (w := w) (p := s14_p48 K (s 0) (s 3) (s 4) (s 21) w) (q := s14_p48_den K s w) (fun s w h => s14_p47_ok K s w @h) (fun i => (tr_bif (fun s w h => s14_p1_ok K s w @h) tr_id)) (by kernel_rfl) (by kernel_rfl) @h
def s14_p49 (K : Value → World → Prop) (t0 t1 : Value) (w : World) : Prop :=
  nw 34 (t1).cells (fun t3 w =>
  nw 38 #[(.bool false), (.int .u64 0), (.slice none 0 0)] (fun t4 w =>
  fd 0 t3 (fun t20 w =>
  ld1 t20 (fun t21 w =>
  s14_p48 K t0 t3 t4 t21 w) w) w) w) w
def s14_p49_den (K : Value → World → Prop) : (Nat → Value) → World → Prop := denL Try.prog [(cd (Try.f14.body.getD .skip) [0]), (cd (Try.f14.body.getD .skip) [1, 0, 0])] (s14_p48_den K) (fun i => (fun _ _ => False)) (s14_R K)
theorem s14_p49_ok (K : Value → World → Prop) (s : Nat → Value) (w : World) (h : s14_p49 K (s 0) (s 1) w) : Tr (s14_p49_den K s w) :=
  tr_simple (P := Try.prog) (codes := [(cd (Try.f14.body.getD .skip) [0]), (cd (Try.f14.body.getD .skip) [1, 0, 0])]) (N := (fun s w => s14_p48 K (s 0) (s 3) (s 4) (s 21) w)) (N' := (s14_p48_den K)) (X := (fun i => (fun _ _ => False))) (X' := (fun i => (fun _ _ => False))) (R := s14_R K) (s := s) (w := w) (p := s14_p49 K (s 0) (s 1) w) (q := s14_p49_den K s w) (fun s w h => s14_p48_ok K s w @h) (fun i => tr_id) (by kernel_rfl) (by kernel_rfl) @h
/-- the call, from the text -/
theorem c14 (t0 t1 : Value) {K : Value → World → Prop} {w : World} (h : s14_p49 K t0 t1 w) : cl Try.prog 14 #[t0, t1] K w :=
  calls_of_tr (c := (Try.f14.body.getD .skip)) (fn := Try.f14) (q := s14_p49_den K (st0 #[t0, t1]) w) Try.func14 (by kernel_rfl) (by kernel_rfl) (Nat.le_of_ble_eq_true (by kernel_rfl)) (by kernel_rfl) (by kernel_rfl) (s14_p49_ok K (st0 #[t0, t1]) w @h)

/-! ### function 15 : e2e.octetslaw.sameState -/
def s15_R (K : Value → World → Prop) (s : Nat → Value) (w : World) : Prop := retv Try.prog s Try.f15.results.toList (fun vs => K (pack vs) w) w
def s15_p1 (K : Value → World → Prop) (t0 t1 : Value) (w : World) : Prop :=
  nw 42 (t0).cells (fun t2 w =>
  nw 42 (t1).cells (fun t3 w =>
  fd 0 t2 (fun t5 w =>
  ld1 t5 (fun t6 w =>
  fd 0 t3 (fun t7 w =>
  ld1 t7 (fun t8 w =>
  cl Try.prog 18 #[t6, t8] (fun t9 w =>
  gd t9 true (fd 1 t2) (fun t11 w =>
  gd t9 true (ld1 t11) (fun t12 w =>
  gd t9 true (fd 1 t3) (fun t13 w =>
  gd t9 true (ld1 t13) (fun t14 w =>
  gd t9 true (boI .eql t12 t14) (fun t15 w =>
  pk t9 t15 (.bool false) (fun t16 w =>
  gd t16 true (fd 2 t2) (fun t18 w =>
  gd t16 true (ld1 t18) (fun t19 w =>
  gd t16 true (fd 2 t3) (fun t20 w =>
  gd t16 true (ld1 t20) (fun t21 w =>
  gd t16 true (boB .eql t19 t21) (fun t22 w =>
  pk t16 t22 (.bool false) (fun t23 w =>
  K t23 w) w) w) w) w) w) w) w) w) w) w) w) w) w) w) w) w) w) w) w
def s15_p1_den (K : Value → World → Prop) : (Nat → Value) → World → Prop := denL Try.prog [(cd (Try.f15.body.getD .skip) [0]), (cd (Try.f15.body.getD .skip) [1, 0]), (cd (Try.f15.body.getD .skip) [1, 1])] (fun _ _ => False) (fun i => (fun _ _ => False)) (s15_R K)
theorem s15_p1_ok (K : Value → World → Prop) (s : Nat → Value) (w : World) (h : s15_p1 K (s 0) (s 1) w) : Tr (s15_p1_den K s w) :=
  tr_simple (P := Try.prog) (codes := [(cd (Try.f15.body.getD .skip) [0]), (cd (Try.f15.body.getD .skip) [1, 0]), (cd (Try.f15.body.getD .skip) [1, 1])]) (N := (fun _ _ => False)) (N' := (fun _ _ => False)) (X := (fun i => (fun _ _ => False))) (X' := (fun i => (fun _ _ => False))) (R := s15_R K) (s := s) (w := w) (p := s15_p1 K (s 0) (s 1) w) (q := s15_p1_den K s w) tr_id (fun i => tr_id) (by kernel_rfl) (by kernel_rfl) @h
/-- the call, from the text -/
theorem c15 (t0 t1 : Value) {K : Value → World → Prop} {w : World} (h : s15_p1 K t0 t1 w) : cl Try.prog 15 #[t0, t1] K w :=
  calls_of_tr (c := (Try.f15.body.getD .skip)) (fn := Try.f15) (q := s15_p1_den K (st0 #[t0, t1]) w) Try.func15 (by kernel_rfl) (by kernel_rfl) (Nat.le_of_ble_eq_true (by kernel_rfl)) (by kernel_rfl) (by kernel_rfl) (s15_p1_ok K (st0 #[t0, t1]) w @h)

/-! ### function 16 : (*e2e.octetslaw.machine).state -/
def s16_R (K : Value → World → Prop) (s : Nat → Value) (w : World) : Prop := retv Try.prog s Try.f16.results.toList (fun vs => K (pack vs) w) w
def s16_p1 (K : Value → World → Prop) (t2 : Value) (w : World) : Prop :=
  ldn 3 t2 (fun r0 _ =>
  K r0 w) w
def s16_p1_den (K : Value → World → Prop) : (Nat → Value) → World → Prop := denL Try.prog [(cd (Try.f16.body.getD .skip) [1, 1])] (fun _ _ => False) (fun i => (fun _ _ => False)) (s16_R K)
theorem s16_p1_ok (K : Value → World → Prop) (s : Nat → Value) (w : World) (h : s16_p1 K (s 2) w) : Tr (s16_p1_den K s w) :=
  tr_simple (P := Try.prog) (codes := [(cd (Try.f16.body.getD .skip) [1, 1])]) (N := (fun _ _ => False)) (N' := (fun _ _ => False)) (X := (fun i => (fun _ _ => False))) (X' := (fun i => (fun _ _ => False))) (R := s16_R K) (s := s) (w := w) (p := s16_p1 K (s 2) w) (q := s16_p1_den K s w) tr_id (fun i => tr_id) (by kernel_rfl) (by kernel_rfl) @h
def s16_p2_d (K : Value → World → Prop) (t0 t2 : Value) (w0 w : World) : Prop :=
  nck t0 (fun t4 _ =>
  fd 0 t4 (fun t5 _ =>
  ld1 t5 (fun t6 _ =>
  nck t0 (fun t8 _ =>
  fd 1 t8 (fun t9 _ =>
  nck t0 (fun t12 _ =>
  fd 1 t12 (fun t13 _ =>
  cl Try.prog 60 #[t9] (fun t10 w =>
  Below w0.heap.size w0 w ∧
  cl Try.prog 47 #[t13] (fun t14 w =>
  Below w0.heap.size w0 w ∧
  bdq [(.slice none 0 0), (.int .i64 0), (.bool false)] [(some (0, 1), t6), (some (1, 1), t10), (some (2, 1), t14)] (fun t15 w =>
  stn 3 t2 t15 (fun w =>
  s16_p1 K t2 w) w) w) w) w) w0) w0) w0) w0) w0) w0) w0
def s16_p2 (K : Value → World → Prop) (t0 t2 : Value) (w : World) : Prop := s16_p2_d K t0 t2 (drw w) (drw w)
def s16_p2_den (K : Value → World → Prop) : (Nat → Value) → World → Prop := denL Try.prog [(cd (Try.f16.body.getD .skip) [1, 0])] (s16_p1_den K) (fun i => (fun _ _ => False)) (s16_R K)
theorem s16_p2_ok (K : Value → World → Prop) (s : Nat → Value) (w : World) (h : s16_p2 K (s 0) (s 2) w) : Tr (s16_p2_den K s w) :=
  tr_draw (P := Try.prog) (ops := (ro (cd (Try.f16.body.getD .skip) [1, 0]))) (ms := [0, 1, 3, 7, 0, 16, 48, 112, 0, 256, 768, 2032, 4095, 8191]) (cs := [0, 1, 2, 3, 4, 5, 6, 8, 9, 10]) (N := (fun s w => s16_p1 K (s 2) w)) (N' := (s16_p1_den K)) (s := s) (w := w) (p := s16_p2 K (s 0) (s 2) w) (q := s16_p2_den K s w) (by kernel_rfl) (by kernel_rfl) (fun s w h => s16_p1_ok K s w @h) (by kernel_rfl) (by kernel_rfl) @h
def s16_p3 (K : Value → World → Prop) (t0 : Value) (w : World) : Prop :=
  nw 42 #[(.slice none 0 0), (.int .i64 0), (.bool false)] (fun t2 w =>
  s16_p2 K t0 t2 w) w
def s16_p3_den (K : Value → World → Prop) : (Nat → Value) → World → Prop := denL Try.prog [(cd (Try.f16.body.getD .skip) [0])] (s16_p2_den K) (fun i => (fun _ _ => False)) (s16_R K)
theorem s16_p3_ok (K : Value → World → Prop) (s : Nat → Value) (w : World) (h : s16_p3 K (s 0) w) : Tr (s16_p3_den K s w) :=
  tr_simple (P := Try.prog) (codes := [(cd (Try.f16.body.getD .skip) [0])]) (N := (fun s w => s16_p2 K (s 0) (s 2) w)) (N' := (s16_p2_den K)) (X := (fun i => (fun _ _ => False))) (X' := (fun i => (fun _ _ => False))) (R := s16_R K) (s := s) (w := w) (p := s16_p3 K (s 0) w) (q := s16_p3_den K s w) (fun s w h => s16_p2_ok K s w @h) (fun i => tr_id) (by kernel_rfl) (by kernel_rfl) @h
/-- the call, from the text -/
theorem c16 (t0 : Value) {K : Value → World → Prop} {w : World} (h : s16_p3 K t0 w) : cl Try.prog 16 #[t0] K w :=
  calls_of_tr (c := (Try.f16.body.getD .skip)) (fn := Try.f16) (q := s16_p3_den K (st0 #[t0]) w) Try.func16 (by kernel_rfl) (by kernel_rfl) (Nat.le_of_ble_eq_true (by kernel_rfl)) (by kernel_rfl) (by kernel_rfl) (s16_p3_ok K (st0 #[t0]) w @h)

/-! ### function 17 : (*e2e.octetsm.Machine).State -/
def s17_R (K : Value → World → Prop) (s : Nat → Value) (w : World) : Prop := retv Try.prog s Try.f17.results.toList (fun vs => K (pack vs) w) w
def s17_p1 (K : Value → World → Prop) (t2 : Value) (w : World) : Prop :=
  ldn 3 t2 (fun r0 _ =>
  K r0 w) w
def s17_p1_den (K : Value → World → Prop) : (Nat → Value) → World → Prop := denL Try.prog [(cd (Try.f17.body.getD .skip) [1, 1])] (fun _ _ => False) (fun i => (fun _ _ => False)) (s17_R K)
theorem s17_p1_ok (K : Value → World → Prop) (s : Nat → Value) (w : World) (h : s17_p1 K (s 2) w) : Tr (s17_p1_den K s w) :=
  tr_simple (P := Try.prog) (codes := [(cd (Try.f17.body.getD .skip) [1, 1])]) (N := (fun _ _ => False)) (N' := (fun _ _ => False)) (X := (fun i => (fun _ _ => False))) (X' := (fun i => (fun _ _ => False))) (R := s17_R K) (s := s) (w := w) (p := s17_p1 K (s 2) w) (q := s17_p1_den K s w) tr_id (fun i => tr_id) (by kernel_rfl) (by kernel_rfl) @h
def s17_p2_d (K : Value → World → Prop) (t0 t2 : Value) (w0 w : World) : Prop :=
  nck t0 (fun t4 _ =>
  fd 0 t4 (fun t5 _ =>
  ld1 t5 (fun t6 _ =>
  nck t0 (fun t9 _ =>
  fd 1 t9 (fun t10 _ =>
  ld1 t10 (fun t11 _ =>
  lnS t11 (fun t12 _ =>
  nck t0 (fun t14 _ =>
  fd 2 t14 (fun t15 _ =>
  ld1 t15 (fun t16 _ =>
  cl Try.prog 11 #[t6] (fun t7 w =>
  Below w0.heap.size w0 w ∧
  bdq [(.slice none 0 0), (.int .i64 0), (.bool false)] [(some (0, 1), t7), (some (1, 1), t12), (some (2, 1), t16)] (fun t17 w =>
  stn 3 t2 t17 (fun w =>
  s17_p1 K t2 w) w) w) w) w0) w0) w0) w0) w0) w0) w0) w0) w0) w0
def s17_p2 (K : Value → World → Prop) (t0 t2 : Value) (w : World) : Prop := s17_p2_d K t0 t2 (drw w) (drw w)
def s17_p2_den (K : Value → World → Prop) : (Nat → Value) → World → Prop := denL Try.prog [(cd (Try.f17.body.getD .skip) [1, 0])] (s17_p1_den K) (fun i => (fun _ _ => False)) (s17_R K)
theorem s17_p2_ok (K : Value → World → Prop) (s : Nat → Value) (w : World) (h : s17_p2 K (s 0) (s 2) w) : Tr (s17_p2_den K s w) :=
  tr_draw (P := Try.prog) (ops := (ro (cd (Try.f17.body.getD .skip) [1, 0]))) (ms := [0, 1, 3, 7, 15, 0, 32, 96, 224, 480, 0, 1024, 3072, 7168, 16383, 32767]) (cs := [0, 1, 2, 3, 5, 6, 7, 8, 9, 10, 11, 12, 13]) (N := (fun s w => s17_p1 K (s 2) w)) (N' := (s17_p1_den K)) (s := s) (w := w) (p := s17_p2 K (s 0) (s 2) w) (q := s17_p2_den K s w) (by kernel_rfl) (by kernel_rfl) (fun s w h => s17_p1_ok K s w @h) (by kernel_rfl) (by kernel_rfl) @h
def s17_p3 (K : Value → World → Prop) (t0 : Value) (w : World) : Prop :=
  nw 42 #[(.slice none 0 0), (.int .i64 0), (.bool false)] (fun t2 w =>
  s17_p2 K t0 t2 w) w
def s17_p3_den (K : Value → World → Prop) : (Nat → Value) → World → Prop := denL Try.prog [(cd (Try.f17.body.getD .skip) [0])] (s17_p2_den K) (fun i => (fun _ _ => False)) (s17_R K)
theorem s17_p3_ok (K : Value → World → Prop) (s : Nat → Value) (w : World) (h : s17_p3 K (s 0) w) : Tr (s17_p3_den K s w) :=
  tr_simple (P := Try.prog) (codes := [(cd (Try.f17.body.getD .skip) [0])]) (N := (fun s w => s17_p2 K (s 0) (s 2) w)) (N' := (s17_p2_den K)) (X := (fun i => (fun _ _ => False))) (X' := (fun i => (fun _ _ => False))) (R := s17_R K) (s := s) (w := w) (p := s17_p3 K (s 0) w) (q := s17_p3_den K s w) (fun s w h => s17_p2_ok K s w @h) (fun i => tr_id) (by kernel_rfl) (by kernel_rfl) @h
/-- the call, from the text -/
theorem c17 (t0 : Value) {K : Value → World → Prop} {w : World} (h : s17_p3 K t0 w) : cl Try.prog 17 #[t0] K w :=
  calls_of_tr (c := (Try.f17.body.getD .skip)) (fn := Try.f17) (q := s17_p3_den K (st0 #[t0]) w) Try.func17 (by kernel_rfl) (by kernel_rfl) (Nat.le_of_ble_eq_true (by kernel_rfl)) (by kernel_rfl) (by kernel_rfl) (s17_p3_ok K (st0 #[t0]) w @h)

/-! ### function 19 : e2e.octetslaw.rotationHolds -/
def s19_R (K : Value → World → Prop) (s : Nat → Value) (w : World) : Prop := retv Try.prog s Try.f19.results.toList (fun vs => K (pack vs) w) w
def s19_p1 (K : Value → World → Prop) (t0 t1 t7 t8 t10 t11 : Value) (w : World) : Prop :=
  cl Try.prog 18 #[t10, t7] (fun t77 w =>
  un .not t77 (fun t78 w =>
  gd t78 false (fun K w => K t11 w) (fun t80 w =>
  gd t78 false (fun K w => K t8 w) (fun t81 w =>
  gd t78 false (cl Try.prog 18 #[t80, t81]) (fun t82 w =>
  gd t78 false (un .not t82) (fun t83 w =>
  pk t78 (.bool true) t83 (fun t84 w =>
  ifb t84
  (K (.bool false) w)
  (cl Try.prog 53 #[t0, t1] (fun t87 w =>
  cl Try.prog 18 #[t87, t7] (fun t89 w =>
  un .not t89 (fun t90 w =>
  gd t90 false (fun K w => K t0 w) (fun t92 w =>
  gd t90 false (fun K w => K t1 w) (fun t93 w =>
  gd t90 false (cl Try.prog 54 #[t92, t93]) (fun t94 w =>
  gd t90 false (fun K w => K t8 w) (fun t95 w =>
  gd t90 false (cl Try.prog 18 #[t94, t95]) (fun t96 w =>
  gd t90 false (un .not t96) (fun t97 w =>
  pk t90 (.bool true) t97 (fun t98 w =>
  ifb t98
  (K (.bool false) w)
  (bsq 5 [(.int .u8 0)] 1 [(some (0, 1), (.int .u8 165))] (fun t99 w =>
  cl Try.prog 62 #[t99, t0, t1] (fun t103 w =>
  lnS t103 (fun t105 w =>
  lnS t0 (fun t107 w =>
  boI .add (.int .i64 1) t107 (fun t108 w =>
  boI .eql t105 t108 (fun t109 w =>
  gd t109 true (fun K w => K t103 w) (fun t111 w =>
  gd t109 true (ixs 1 t111 (.int .i64 0)) (fun t112 w =>
  gd t109 true (ld1 t112) (fun t113 w =>
  gd t109 true (boI .eql t113 (.int .u8 165)) (fun t114 w =>
  pk t109 t114 (.bool false) (fun t115 w =>
  gd t115 true (fun K w => K t103 w) (fun t117 w =>
  gd t115 true (sls 1 t117 (some (.int .i64 1)) none) (fun t118 w =>
  gd t115 true (fun K w => K t8 w) (fun t119 w =>
  gd t115 true (cl Try.prog 18 #[t118, t119]) (fun t120 w =>
  pk t115 t120 (.bool false) (fun t121 w =>
  K t121 w) w) w) w) w) w) w) w) w) w) w) w) w) w) w) w) w)) w) w) w) w) w) w) w) w) w) w)) w) w) w) w) w) w) w
def s19_p1_den (K : Value → World → Prop) : (Nat → Value) → World → Prop := denL Try.prog [(cd (Try.f19.body.getD .skip) [1, 1, 1, 1, 1, 1, 1, 1, 1, 1, 1, 1, 1, 1, 1, 1, 1, 0, 0]), (cd (Try.f19.body.getD .skip) [1, 1, 1, 1, 1, 1, 1, 1, 1, 1, 1, 1, 1, 1, 1, 1, 1, 0, 1]), (cd (Try.f19.body.getD .skip) [1, 1, 1, 1, 1, 1, 1, 1, 1, 1, 1, 1, 1, 1, 1, 1, 1, 1, 0, 0]), (cd (Try.f19.body.getD .skip) [1, 1, 1, 1, 1, 1, 1, 1, 1, 1, 1, 1, 1, 1, 1, 1, 1, 1, 0, 1]), (cd (Try.f19.body.getD .skip) [1, 1, 1, 1, 1, 1, 1, 1, 1, 1, 1, 1, 1, 1, 1, 1, 1, 1, 1, 0]), (cd (Try.f19.body.getD .skip) [1, 1, 1, 1, 1, 1, 1, 1, 1, 1, 1, 1, 1, 1, 1, 1, 1, 1, 1, 1, 0]), (cd (Try.f19.body.getD .skip) [1, 1, 1, 1, 1, 1, 1, 1, 1, 1, 1, 1, 1, 1, 1, 1, 1, 1, 1, 1, 1, 0]), (cd (Try.f19.body.getD .skip) [1, 1, 1, 1, 1, 1, 1, 1, 1, 1, 1, 1, 1, 1, 1, 1, 1, 1, 1, 1, 1, 1])] (fun _ _ => False) (fun i => (fun _ _ => False)) (s19_R K)
theorem s19_p1_ok (K : Value → World → Prop) (s : Nat → Value) (w : World) (h : s19_p1 K (s 0) (s 1) (s 7) (s 8) (s 10) (s 11) w) : Tr (s19_p1_den K s w) :=
  tr_simple (P := Try.prog) (codes := [(cd (Try.f19.body.getD .skip) [1, 1, 1, 1, 1, 1, 1, 1, 1, 1, 1, 1, 1, 1, 1, 1, 1, 0, 0]), (cd (Try.f19.body.getD .skip) [1, 1, 1, 1, 1, 1, 1, 1, 1, 1, 1, 1, 1, 1, 1, 1, 1, 0, 1]), (cd (Try.f19.body.getD .skip) [1, 1, 1, 1, 1, 1, 1, 1, 1, 1, 1, 1, 1, 1, 1, 1, 1, 1, 0, 0]), (cd (Try.f19.body.getD .skip) [1, 1, 1, 1, 1, 1, 1, 1, 1, 1, 1, 1, 1, 1, 1, 1, 1, 1, 0, 1]), (cd (Try.f19.body.getD .skip) [1, 1, 1, 1, 1, 1, 1, 1, 1, 1, 1, 1, 1, 1, 1, 1, 1, 1, 1, 0]), (cd (Try.f19.body.getD .skip) [1, 1, 1, 1, 1, 1, 1, 1, 1, 1, 1, 1, 1, 1, 1, 1, 1, 1, 1, 1, 0]), (cd (Try.f19.body.getD .skip) [1, 1, 1, 1, 1, 1, 1, 1, 1, 1, 1, 1, 1, 1, 1, 1, 1, 1, 1, 1, 1, 0]), (cd (Try.f19.body.getD .skip) [1, 1, 1, 1, 1, 1, 1, 1, 1, 1, 1, 1, 1, 1, 1, 1, 1, 1, 1, 1, 1, 1])]) (N := (fun _ _ => False)) (N' := (fun _ _ => False)) (X := (fun i => (fun _ _ => False))) (X' := (fun i => (fun _ _ => False))) (R := s19_R K) (s := s) (w := w) (p := s19_p1 K (s 0) (s 1) (s 7) (s 8) (s 10) (s 11) w) (q := s19_p1_den K s w) tr_id (fun i => tr_id) (by kernel_rfl) (by kernel_rfl) @h
def s19_p2 (K : Value → World → Prop) (B1 : List Value → World → Prop) (t0 t1 t6 t7 t8 t10 t11 t12 : Value) (w : World) : Prop :=
  boI .lss t12 t6 (fun t68 w =>
  ifb t68
  (cl Try.prog 38 #[t10, (.int .i64 1)] (fun t72 w =>
  cl Try.prog 39 #[t11, (.int .i64 1)] (fun t74 w =>
  boI .add t12 (.int .i64 1) (fun t70 w =>
  B1 [t0, t1, t6, t7, t8, t10, t11, t70] w) w) w) w)
  (s19_p1 K t0 t1 t7 t8 t10 t11 w)) w
def s19_p2_den (K : Value → World → Prop) (M1 : (Nat → Value) → World → Prop) : (Nat → Value) → World → Prop := denL Try.prog [(cd (Try.f19.body.getD .skip) [1, 1, 1, 1, 1, 1, 1, 1, 1, 1, 1, 1, 1, 1, 1, 1, 0, 1, 0, 0, 0, 0]), (cd (Try.f19.body.getD .skip) [1, 1, 1, 1, 1, 1, 1, 1, 1, 1, 1, 1, 1, 1, 1, 1, 0, 1, 0, 0, 0, 1]), (cd (Try.f19.body.getD .skip) [1, 1, 1, 1, 1, 1, 1, 1, 1, 1, 1, 1, 1, 1, 1, 1, 0, 1, 0, 0, 1, 0]), (cd (Try.f19.body.getD .skip) [1, 1, 1, 1, 1, 1, 1, 1, 1, 1, 1, 1, 1, 1, 1, 1, 0, 1, 0, 0, 1, 1])] M1 (fun i => (bif Nat.beq i 0 then (s19_p1_den K) else (fun _ _ => False))) (s19_R K)
theorem s19_p2_ok (K : Value → World → Prop) (B1 : List Value → World → Prop) (s : Nat → Value) (w : World) (h : s19_p2 K B1 (s 0) (s 1) (s 6) (s 7) (s 8) (s 10) (s 11) (s 12) w) : Tr (s19_p2_den K (fun s w => B1 [s 0, s 1, s 6, s 7, s 8, s 10, s 11, s 12] w) s w) :=
  tr_simple (P := Try.prog) (codes := [(cd (Try.f19.body.getD .skip) [1, 1, 1, 1, 1, 1, 1, 1, 1, 1, 1, 1, 1, 1, 1, 1, 0, 1, 0, 0, 0, 0]), (cd (Try.f19.body.getD .skip) [1, 1, 1, 1, 1, 1, 1, 1, 1, 1, 1, 1, 1, 1, 1, 1, 0, 1, 0, 0, 0, 1]), (cd (Try.f19.body.getD .skip) [1, 1, 1, 1, 1, 1, 1, 1, 1, 1, 1, 1, 1, 1, 1, 1, 0, 1, 0, 0, 1, 0]), (cd (Try.f19.body.getD .skip) [1, 1, 1, 1, 1, 1, 1, 1, 1, 1, 1, 1, 1, 1, 1, 1, 0, 1, 0, 0, 1, 1])]) (N := (fun s w => B1 [s 0, s 1, s 6, s 7, s 8, s 10, s 11, s 12] w)) (N' := (fun s w => B1 [s 0, s 1, s 6, s 7, s 8, s 10, s 11, s 12] w)) (X := (fun i => (bif Nat.beq i 0 then (fun s w => s19_p1 K (s 0) (s 1) (s 7) (s 8) (s 10) (s 11) w) else (fun _ _ => False)))) (X' := (fun i => (bif Nat.beq i 0 then (s19_p1_den K) else (fun _ _ => False)))) (R := s19_R K) (s := s) (w := w) (p := s19_p2 K B1 (s 0) (s 1) (s 6) (s 7) (s 8) (s 10) (s 11) (s 12) w) (q := s19_p2_den K (fun s w => B1 [s 0, s 1, s 6, s 7, s 8, s 10, s 11, s 12] w) s w) tr_id (fun i => (tr_bif (fun s w h => s19_p1_ok K s w @h) tr_id)) (by kernel_rfl) (by kernel_rfl) @h
def s19_p3_F (K : Value → World → Prop) (B1 : List Value → World → Prop) (l : List Value) (w : World) : Prop :=
  match l with
  | [t0, t1, t6, t7, t8, t10, t11, t12] => s19_p2 K B1 t0 t1 t6 t7 t8 t10 t11 t12 w
  | _ => False
theorem s19_p3_Fe {K : Value → World → Prop} {B1 : List Value → World → Prop} {t0 t1 t6 t7 t8 t10 t11 t12 : Value} {w : World} : s19_p3_F K B1 [t0, t1, t6, t7, t8, t10, t11, t12] w = s19_p2 K B1 t0 t1 t6 t7 t8 t10 t11 t12 w := by kernel_rfl
def s19_p3 (K : Value → World → Prop) (t0 t1 t6 t7 t8 t10 t11 t12 : Value) (w : World) : Prop :=
  LoopL (s19_p3_F K) [t0, t1, t6, t7, t8, t10, t11, t12] w
def s19_p3_den (K : Value → World → Prop) : (Nat → Value) → World → Prop := fun s w => LoopP (fun M1 s w => s19_p2_den K M1 s w) s w
theorem s19_p3_ok (K : Value → World → Prop) (s : Nat → Value) (w : World) (h : s19_p3 K (s 0) (s 1) (s 6) (s 7) (s 8) (s 10) (s 11) (s 12) w) : Tr (s19_p3_den K s w) :=
  tr_loop (G := fun N' s w => s19_p2_den K N' s w) (F := s19_p3_F K) (sel := fun s => [s 0, s 1, s 6, s 7, s 8, s 10, s 11, s 12]) (s := s) (w := w) (p := s19_p3 K (s 0) (s 1) (s 6) (s 7) (s 8) (s 10) (s 11) (s 12) w) (q := s19_p3_den K s w) (fun B s w h => s19_p2_ok K B s w @h) (by kernel_rfl) (by kernel_rfl) @h
def s19_p4 (K : Value → World → Prop) (t0 t1 : Value) (w : World) : Prop :=
  lnS t0 (fun t16 w =>
  boI .mul (.int .i64 8) t16 (fun t17 w =>
  cl Try.prog 61 #[t1, t17] (fun t20 w =>
  cl Try.prog 32 #[t0] (fun t22 w =>
  cl Try.prog 32 #[t0] (fun t24 w =>
  cl Try.prog 38 #[t22, t1] (fun t27 w =>
  cl Try.prog 39 #[t24, t1] (fun t30 w =>
  cl Try.prog 32 #[t22] (fun t32 w =>
  boI .sub t17 t20 (fun t36 w =>
  cl Try.prog 38 #[t32, t36] (fun t37 w =>
  cl Try.prog 18 #[t32, t0] (fun t40 w =>
  un .not t40 (fun t41 w =>
  ifb t41
  (K (.bool false) w)
  (cl Try.prog 32 #[t24] (fun t43 w =>
  boI .sub t17 t20 (fun t47 w =>
  cl Try.prog 39 #[t43, t47] (fun t48 w =>
  cl Try.prog 18 #[t43, t0] (fun t51 w =>
  un .not t51 (fun t52 w =>
  ifb t52
  (K (.bool false) w)
  (cl Try.prog 32 #[t22] (fun t54 w =>
  cl Try.prog 39 #[t54, t1] (fun t57 w =>
  cl Try.prog 18 #[t54, t0] (fun t60 w =>
  un .not t60 (fun t61 w =>
  ifb t61
  (K (.bool false) w)
  (cl Try.prog 32 #[t0] (fun t63 w =>
  cl Try.prog 32 #[t0] (fun t65 w =>
  s19_p3 K t0 t1 t20 t22 t24 t63 t65 (.int .i64 0) w) w) w)) w) w) w) w)) w) w) w) w) w)) w) w) w) w) w) w) w) w) w) w) w) w
def s19_p4_den (K : Value → World → Prop) : (Nat → Value) → World → Prop := denL Try.prog [(cd (Try.f19.body.getD .skip) [0]), (cd (Try.f19.body.getD .skip) [1, 0]), (cd (Try.f19.body.getD .skip) [1, 1, 0]), (cd (Try.f19.body.getD .skip) [1, 1, 1, 0]), (cd (Try.f19.body.getD .skip) [1, 1, 1, 1, 0]), (cd (Try.f19.body.getD .skip) [1, 1, 1, 1, 1, 0]), (cd (Try.f19.body.getD .skip) [1, 1, 1, 1, 1, 1, 0]), (cd (Try.f19.body.getD .skip) [1, 1, 1, 1, 1, 1, 1, 0]), (cd (Try.f19.body.getD .skip) [1, 1, 1, 1, 1, 1, 1, 1, 0, 0]), (cd (Try.f19.body.getD .skip) [1, 1, 1, 1, 1, 1, 1, 1, 0, 1]), (cd (Try.f19.body.getD .skip) [1, 1, 1, 1, 1, 1, 1, 1, 1, 0]), (cd (Try.f19.body.getD .skip) [1, 1, 1, 1, 1, 1, 1, 1, 1, 1, 0]), (cd (Try.f19.body.getD .skip) [1, 1, 1, 1, 1, 1, 1, 1, 1, 1, 1, 0, 0]), (cd (Try.f19.body.getD .skip) [1, 1, 1, 1, 1, 1, 1, 1, 1, 1, 1, 0, 1]), (cd (Try.f19.body.getD .skip) [1, 1, 1, 1, 1, 1, 1, 1, 1, 1, 1, 1, 0]), (cd (Try.f19.body.getD .skip) [1, 1, 1, 1, 1, 1, 1, 1, 1, 1, 1, 1, 1, 0]), (cd (Try.f19.body.getD .skip) [1, 1, 1, 1, 1, 1, 1, 1, 1, 1, 1, 1, 1, 1, 0, 0]), (cd (Try.f19.body.getD .skip) [1, 1, 1, 1, 1, 1, 1, 1, 1, 1, 1, 1, 1, 1, 0, 1]), (cd (Try.f19.body.getD .skip) [1, 1, 1, 1, 1, 1, 1, 1, 1, 1, 1, 1, 1, 1, 1, 0]), (cd (Try.f19.body.getD .skip) [1, 1, 1, 1, 1, 1, 1, 1, 1, 1, 1, 1, 1, 1, 1, 1, 0, 0])] (s19_p3_den K) (fun i => (fun _ _ => False)) (s19_R K)
theorem s19_p4_ok (K : Value → World → Prop) (s : Nat → Value) (w : World) (h : s19_p4 K (s 0) (s 1) w) : Tr (s19_p4_den K s w) :=
  tr_simple (P := Try.prog) (codes := [(cd (Try.f19.body.getD .skip) [0]), (cd (Try.f19.body.getD .skip) [1, 0]), (cd (Try.f19.body.getD .skip) [1, 1, 0]), (cd (Try.f19.body.getD .skip) [1, 1, 1, 0]), (cd (Try.f19.body.getD .skip) [1, 1, 1, 1, 0]), (cd (Try.f19.body.getD .skip) [1, 1, 1, 1, 1, 0]), (cd (Try.f19.body.getD .skip) [1, 1, 1, 1, 1, 1, 0]), (cd (Try.f19.body.getD .skip) [1, 1, 1, 1, 1, 1, 1, 0]), (cd (Try.f19.body.getD .skip) [1, 1, 1, 1, 1, 1, 1, 1, 0, 0]), (cd (Try.f19.body.getD .skip) [1, 1, 1, 1, 1, 1, 1, 1, 0, 1]), (cd (Try.f19.body.getD .skip) [1, 1, 1, 1, 1, 1, 1, 1, 1, 0]), (cd (Try.f19.body.getD .skip) [1, 1, 1, 1, 1, 1, 1, 1, 1, 1, 0]), (cd (Try.f19.body.getD .skip) [1, 1, 1, 1, 1, 1, 1, 1, 1, 1, 1, 0, 0]), (cd (Try.f19.body.getD .skip) [1, 1, 1, 1, 1, 1, 1, 1, 1, 1, 1, 0, 1]), (cd (Try.f19.body.getD .skip) [1, 1, 1, 1, 1, 1, 1, 1, 1, 1, 1, 1, 0]), (cd (Try.f19.body.getD .skip) [1, 1, 1, 1, 1, 1, 1, 1, 1, 1, 1, 1, 1, 0]), (cd (Try.f19.body.getD .skip) [1, 1, 1, 1, 1, 1, 1, 1, 1, 1, 1, 1, 1, 1, 0, 0]), (cd (Try.f19.body.getD .skip) [1, 1, 1, 1, 1, 1, 1, 1, 1, 1, 1, 1, 1, 1, 0, 1]), (cd (Try.f19.body.getD .skip) [1, 1, 1, 1, 1, 1, 1, 1, 1, 1, 1, 1, 1, 1, 1, 0]), (cd (Try.f19.body.getD .skip) [1, 1, 1, 1, 1, 1, 1, 1, 1, 1, 1, 1, 1, 1, 1, 1, 0, 0])]) (N := (fun s w => s19_p3 K (s 0) (s 1) (s 6) (s 7) (s 8) (s 10) (s 11) (s 12) w)) (N' := (s19_p3_den K)) (X := (fun i => (fun _ _ => False))) (X' := (fun i => (fun _ _ => False))) (R := s19_R K) (s := s) (w := w) (p := s19_p4 K (s 0) (s 1) w) (q := s19_p4_den K s w) (fun s w h => s19_p3_ok K s w @h) (fun i => tr_id) (by kernel_rfl) (by kernel_rfl) @h
/-- the call, from the text -/
theorem c19 (t0 t1 : Value) {K : Value → World → Prop} {w : World} (h : s19_p4 K t0 t1 w) : cl Try.prog 19 #[t0, t1] K w :=
  calls_of_tr (c := (Try.f19.body.getD .skip)) (fn := Try.f19) (q := s19_p4_den K (st0 #[t0, t1]) w) Try.func19 (by kernel_rfl) (by kernel_rfl) (Nat.le_of_ble_eq_true (by kernel_rfl)) (by kernel_rfl) (by kernel_rfl) (s19_p4_ok K (st0 #[t0, t1]) w @h)

/-! ### function 20 : e2e.octetslaw.comparisonHolds -/
def s20_R (K : Value → World → Prop) (s : Nat → Value) (w : World) : Prop := retv Try.prog s Try.f20.results.toList (fun vs => K (pack vs) w) w
def s20_p1 (K : Value → World → Prop) (t0 t9 : Value) (w : World) : Prop :=
  cl Try.prog 43 #[t0, t9] (fun t82 w =>
  un .not t82 (fun t83 w =>
  gd t83 true (fun K w => K t9 w) (fun t85 w =>
  gd t83 true (fun K w => K t0 w) (fun t86 w =>
  gd t83 true (cl Try.prog 43 #[t85, t86]) (fun t87 w =>
  gd t83 true (un .not t87) (fun t88 w =>
  pk t83 t88 (.bool false) (fun t89 w =>
  K t89 w) w) w) w) w) w) w) w
def s20_p1_den (K : Value → World → Prop) : (Nat → Value) → World → Prop := denL Try.prog [(cd (Try.f20.body.getD .skip) [1, 1, 1, 1, 1, 1, 1, 1, 1, 1, 1, 0]), (cd (Try.f20.body.getD .skip) [1, 1, 1, 1, 1, 1, 1, 1, 1, 1, 1, 1])] (fun _ _ => False) (fun i => (fun _ _ => False)) (s20_R K)
theorem s20_p1_ok (K : Value → World → Prop) (s : Nat → Value) (w : World) (h : s20_p1 K (s 0) (s 9) w) : Tr (s20_p1_den K s w) :=
  tr_simple (P := Try.prog) (codes := [(cd (Try.f20.body.getD .skip) [1, 1, 1, 1, 1, 1, 1, 1, 1, 1, 1, 0]), (cd (Try.f20.body.getD .skip) [1, 1, 1, 1, 1, 1, 1, 1, 1, 1, 1, 1])]) (N := (fun _ _ => False)) (N' := (fun _ _ => False)) (X := (fun i => (fun _ _ => False))) (X' := (fun i => (fun _ _ => False))) (R := s20_R K) (s := s) (w := w) (p := s20_p1 K (s 0) (s 9) w) (q := s20_p1_den K s w) tr_id (fun i => tr_id) (by kernel_rfl) (by kernel_rfl) @h
def s20_p2_d (K : Value → World → Prop) (t0 t8 t9 : Value) (w0 w : World) : Prop :=
  boI .quo t8 (.int .i64 8) (fun t72 _ =>
  ixs 1 t9 t72 (fun t73 _ =>
  ld1 t73 (fun t74 _ =>
  boI .rem t8 (.int .i64 8) (fun t76 _ =>
  boI .shl (.int .u8 1) t76 (fun t77 _ =>
  boI .xor t74 t77 (fun t78 _ =>
  ixs 1 t9 t72 (fun t79 _ =>
  st1 t79 t78 (fun w =>
  s20_p1 K t0 t9 w) w) w0) w0) w0) w0) w0) w0) w0
def s20_p2 (K : Value → World → Prop) (t0 t8 t9 : Value) (w : World) : Prop := s20_p2_d K t0 t8 t9 (drw w) (drw w)
def s20_p2_den (K : Value → World → Prop) : (Nat → Value) → World → Prop := denL Try.prog [(cd (Try.f20.body.getD .skip) [1, 1, 1, 1, 1, 1, 1, 1, 1, 1, 0])] (s20_p1_den K) (fun i => (fun _ _ => False)) (s20_R K)
theorem s20_p2_ok (K : Value → World → Prop) (s : Nat → Value) (w : World) (h : s20_p2 K (s 0) (s 8) (s 9) w) : Tr (s20_p2_den K s w) :=
  tr_draw (P := Try.prog) (ops := (ro (cd (Try.f20.body.getD .skip) [1, 1, 1, 1, 1, 1, 1, 1, 1, 1, 0]))) (ms := [0, 0, 2, 7, 15, 0, 32, 96, 255, 511, 1023]) (cs := [0, 1, 2, 3, 4, 5, 6, 7, 8, 9]) (N := (fun s w => s20_p1 K (s 0) (s 9) w)) (N' := (s20_p1_den K)) (s := s) (w := w) (p := s20_p2 K (s 0) (s 8) (s 9) w) (q := s20_p2_den K s w) (by kernel_rfl) (by kernel_rfl) (fun s w h => s20_p1_ok K s w @h) (by kernel_rfl) (by kernel_rfl) @h
def s20_p3 (K : Value → World → Prop) (t0 t2 t44 : Value) (w : World) : Prop :=
  ifb t44
  (K (.bool false) w)
  (lnS t0 (fun t46 w =>
  boI .eql t46 (.int .i64 0) (fun t47 w =>
  ifb t47
  (cl Try.prog 43 #[(.slice none 0 0), t0] (fun t49 w =>
  K t49 w) w)
  (lnS t0 (fun t53 w =>
  boI .sub t53 (.int .i64 1) (fun t54 w =>
  sls 1 t0 none (some t54) (fun t55 w =>
  cl Try.prog 43 #[t0, t55] (fun t56 w =>
  gd t56 false (fun K w => K t0 w) (fun t58 w =>
  gd t56 false (sls 1 t58 (some (.int .i64 1)) none) (fun t59 w =>
  gd t56 false (fun K w => K t0 w) (fun t60 w =>
  gd t56 false (cl Try.prog 43 #[t59, t60]) (fun t61 w =>
  pk t56 (.bool true) t61 (fun t62 w =>
  ifb t62
  (K (.bool false) w)
  (lnS t0 (fun t65 w =>
  boI .mul (.int .i64 8) t65 (fun t66 w =>
  cl Try.prog 61 #[t2, t66] (fun t67 w =>
  cl Try.prog 11 #[t0] (fun t69 w =>
  s20_p2 K t0 t67 t69 w) w) w) w) w)) w) w) w) w) w) w) w) w) w)) w) w)
def s20_p3_den (K : Value → World → Prop) : (Nat → Value) → World → Prop := denL Try.prog [(cd (Try.f20.body.getD .skip) [1, 1, 1, 1, 1, 0, 1]), (cd (Try.f20.body.getD .skip) [1, 1, 1, 1, 1, 1, 0, 0]), (cd (Try.f20.body.getD .skip) [1, 1, 1, 1, 1, 1, 0, 1]), (cd (Try.f20.body.getD .skip) [1, 1, 1, 1, 1, 1, 1, 0, 0]), (cd (Try.f20.body.getD .skip) [1, 1, 1, 1, 1, 1, 1, 0, 1]), (cd (Try.f20.body.getD .skip) [1, 1, 1, 1, 1, 1, 1, 1, 0]), (cd (Try.f20.body.getD .skip) [1, 1, 1, 1, 1, 1, 1, 1, 1, 0])] (s20_p2_den K) (fun i => (fun _ _ => False)) (s20_R K)
theorem s20_p3_ok (K : Value → World → Prop) (s : Nat → Value) (w : World) (h : s20_p3 K (s 0) (s 2) (s 44) w) : Tr (s20_p3_den K s w) :=
  tr_simple (P := Try.prog) (codes := [(cd (Try.f20.body.getD .skip) [1, 1, 1, 1, 1, 0, 1]), (cd (Try.f20.body.getD .skip) [1, 1, 1, 1, 1, 1, 0, 0]), (cd (Try.f20.body.getD .skip) [1, 1, 1, 1, 1, 1, 0, 1]), (cd (Try.f20.body.getD .skip) [1, 1, 1, 1, 1, 1, 1, 0, 0]), (cd (Try.f20.body.getD .skip) [1, 1, 1, 1, 1, 1, 1, 0, 1]), (cd (Try.f20.body.getD .skip) [1, 1, 1, 1, 1, 1, 1, 1, 0]), (cd (Try.f20.body.getD .skip) [1, 1, 1, 1, 1, 1, 1, 1, 1, 0])]) (N := (fun s w => s20_p2 K (s 0) (s 8) (s 9) w)) (N' := (s20_p2_den K)) (X := (fun i => (fun _ _ => False))) (X' := (fun i => (fun _ _ => False))) (R := s20_R K) (s := s) (w := w) (p := s20_p3 K (s 0) (s 2) (s 44) w) (q := s20_p3_den K s w) (fun s w h => s20_p2_ok K s w @h) (fun i => tr_id) (by kernel_rfl) (by kernel_rfl) @h
def s20_p4_d (K : Value → World → Prop) (t0 t2 : Value) (w0 w : World) : Prop :=
  lnS t0 (fun t41 _ =>
  (cl Try.prog 63 #[t0] (fun t38 w =>
  Below w0.heap.size w0 w ∧
  mks 5 [(.int .u8 0)] 1 t41 t41 (fun t42 w =>
  cl Try.prog 18 #[t0, t42] (fun t43 w =>
  boB .neq t38 t43 (fun t44 w =>
  s20_p3 K t0 t2 t44 w) w) w) w) w) ∧
  (mks 5 [(.int .u8 0)] 1 t41 t41 (fun t42_2 w =>
  cl Try.prog 63 #[t0] (fun t38_2 w =>
  Below w0.heap.size w0 w ∧
  cl Try.prog 18 #[t0, t42_2] (fun t43_2 w =>
  boB .neq t38_2 t43_2 (fun t44_2 w =>
  s20_p3 K t0 t2 t44_2 w) w) w) w) w)) w0
def s20_p4 (K : Value → World → Prop) (t0 t2 : Value) (w : World) : Prop := s20_p4_d K t0 t2 (drw w) (drw w)
def s20_p4_den (K : Value → World → Prop) : (Nat → Value) → World → Prop := denL Try.prog [(cd (Try.f20.body.getD .skip) [1, 1, 1, 1, 1, 0, 0])] (s20_p3_den K) (fun i => (fun _ _ => False)) (s20_R K)
theorem s20_p4_ok (K : Value → World → Prop) (s : Nat → Value) (w : World) (h : s20_p4 K (s 0) (s 2) w) : Tr (s20_p4_den K s w) :=
  tr_draw (P := Try.prog) (ops := (ro (cd (Try.f20.body.getD .skip) [1, 1, 1, 1, 1, 0, 0]))) (ms := [0, 1, 0, 0, 8, 24, 63, 127]) (cs := [0, 2, 3, 4]) (N := (fun s w => s20_p3 K (s 0) (s 2) (s 44) w)) (N' := (s20_p3_den K)) (s := s) (w := w) (p := s20_p4 K (s 0) (s 2) w) (q := s20_p4_den K s w) (by kernel_rfl) (by kernel_rfl) (fun s w h => s20_p3_ok K s w @h) (by kernel_rfl) (by kernel_rfl) @h
def s20_p5 (K : Value → World → Prop) (t0 t1 t2 : Value) (w : World) : Prop :=
  cl Try.prog 43 #[t0, t1] (fun t12 w =>
  cl Try.prog 18 #[t0, t1] (fun t15 w =>
  boB .neq t12 t15 (fun t16 w =>
  gd t16 false (fun K w => K t1 w) (fun t18 w =>
  gd t16 false (fun K w => K t0 w) (fun t19 w =>
  gd t16 false (cl Try.prog 43 #[t18, t19]) (fun t20 w =>
  gd t16 false (fun K w => K t0 w) (fun t21 w =>
  gd t16 false (fun K w => K t1 w) (fun t22 w =>
  gd t16 false (cl Try.prog 18 #[t21, t22]) (fun t23 w =>
  gd t16 false (boB .neq t20 t23) (fun t24 w =>
  pk t16 (.bool true) t24 (fun t25 w =>
  ifb t25
  (K (.bool false) w)
  (cl Try.prog 11 #[t0] (fun t27 w =>
  cl Try.prog 43 #[t0, t27] (fun t30 w =>
  un .not t30 (fun t31 w =>
  ifb t31
  (K (.bool false) w)
  (bsq 5 [(.int .u8 0)] 1 [(some (0, 1), (.int .u8 0))] (fun t34 w =>
  apq 5 [(.int .u8 0)] 1 t27 t34 (fun t35 w =>
  cl Try.prog 43 #[t0, t35] (fun t36 w =>
  ifb t36
  (K (.bool false) w)
  (s20_p4 K t0 t2 w)) w) w) w)) w) w) w)) w) w) w) w) w) w) w) w) w) w) w
def s20_p5_den (K : Value → World → Prop) : (Nat → Value) → World → Prop := denL Try.prog [(cd (Try.f20.body.getD .skip) [0]), (cd (Try.f20.body.getD .skip) [1, 0, 0]), (cd (Try.f20.body.getD .skip) [1, 0, 1]), (cd (Try.f20.body.getD .skip) [1, 1, 0]), (cd (Try.f20.body.getD .skip) [1, 1, 1, 0, 0]), (cd (Try.f20.body.getD .skip) [1, 1, 1, 0, 1]), (cd (Try.f20.body.getD .skip) [1, 1, 1, 1, 0, 0]), (cd (Try.f20.body.getD .skip) [1, 1, 1, 1, 0, 1])] (s20_p4_den K) (fun i => (fun _ _ => False)) (s20_R K)
theorem s20_p5_ok (K : Value → World → Prop) (s : Nat → Value) (w : World) (h : s20_p5 K (s 0) (s 1) (s 2) w) : Tr (s20_p5_den K s w) :=
  tr_simple (P := Try.prog) (codes := [(cd (Try.f20.body.getD .skip) [0]), (cd (Try.f20.body.getD .skip) [1, 0, 0]), (cd (Try.f20.body.getD .skip) [1, 0, 1]), (cd (Try.f20.body.getD .skip) [1, 1, 0]), (cd (Try.f20.body.getD .skip) [1, 1, 1, 0, 0]), (cd (Try.f20.body.getD .skip) [1, 1, 1, 0, 1]), (cd (Try.f20.body.getD .skip) [1, 1, 1, 1, 0, 0]), (cd (Try.f20.body.getD .skip) [1, 1, 1, 1, 0, 1])]) (N := (fun s w => s20_p4 K (s 0) (s 2) w)) (N' := (s20_p4_den K)) (X := (fun i => (fun _ _ => False))) (X' := (fun i => (fun _ _ => False))) (R := s20_R K) (s := s) (w := w) (p := s20_p5 K (s 0) (s 1) (s 2) w) (q := s20_p5_den K s w) (fun s w h => s20_p4_ok K s w @h) (fun i => tr_id) (by kernel_rfl) (by kernel_rfl) @h
/-- the call, from the text -/
theorem c20 (t0 t1 t2 : Value) {K : Value → World → Prop} {w : World} (h : s20_p5 K t0 t1 t2 w) : cl Try.prog 20 #[t0, t1, t2] K w :=
  calls_of_tr (c := (Try.f20.body.getD .skip)) (fn := Try.f20) (q := s20_p5_den K (st0 #[t0, t1, t2]) w) Try.func20 (by kernel_rfl) (by kernel_rfl) (Nat.le_of_ble_eq_true (by kernel_rfl)) (by kernel_rfl) (by kernel_rfl) (s20_p5_ok K (st0 #[t0, t1, t2]) w @h)

/-! ### function 22 : e2e.octetslaw.fit -/
def s22_R (K : Value → World → Prop) (s : Nat → Value) (w : World) : Prop := retv Try.prog s Try.f22.results.toList (fun vs => K (pack vs) w) w
def s22_p1 (K : Value → World → Prop) (t5 : Value) (w : World) : Prop :=
  K t5 w
def s22_p1_den (K : Value → World → Prop) : (Nat → Value) → World → Prop := denL Try.prog [(cd (Try.f22.body.getD .skip) [1, 1, 1, 0]), (cd (Try.f22.body.getD .skip) [1, 1, 1, 1])] (fun _ _ => False) (fun i => (fun _ _ => False)) (s22_R K)
theorem s22_p1_ok (K : Value → World → Prop) (s : Nat → Value) (w : World) (h : s22_p1 K (s 5) w) : Tr (s22_p1_den K s w) :=
  tr_simple (P := Try.prog) (codes := [(cd (Try.f22.body.getD .skip) [1, 1, 1, 0]), (cd (Try.f22.body.getD .skip) [1, 1, 1, 1])]) (N := (fun _ _ => False)) (N' := (fun _ _ => False)) (X := (fun i => (fun _ _ => False))) (X' := (fun i => (fun _ _ => False))) (R := s22_R K) (s := s) (w := w) (p := s22_p1 K (s 5) w) (q := s22_p1_den K s w) tr_id (fun i => tr_id) (by kernel_rfl) (by kernel_rfl) @h
def s22_p2 (K : Value → World → Prop) (B1 : List Value → World → Prop) (t0 t5 t10 t11 : Value) (w : World) : Prop :=
  boI .add t11 (.int .i64 1) (fun t27 w =>
  B1 [t0, t5, t10, t27] w) w
def s22_p2_den (K : Value → World → Prop) (M1 : (Nat → Value) → World → Prop) : (Nat → Value) → World → Prop := denL Try.prog [(cd (Try.f22.body.getD .skip) [1, 1, 0, 1, 0, 0, 1, 1, 1])] M1 (fun i => (bif Nat.beq i 0 then (s22_p1_den K) else (fun _ _ => False))) (s22_R K)
theorem s22_p2_ok (K : Value → World → Prop) (B1 : List Value → World → Prop) (s : Nat → Value) (w : World) (h : s22_p2 K B1 (s 0) (s 5) (s 10) (s 11) w) : Tr (s22_p2_den K (fun s w => B1 [s 0, s 5, s 10, s 11] w) s w) :=
  tr_simple (P := Try.prog) (codes := [(cd (Try.f22.body.getD .skip) [1, 1, 0, 1, 0, 0, 1, 1, 1])]) (N := (fun s w => B1 [s 0, s 5, s 10, s 11] w)) (N' := (fun s w => B1 [s 0, s 5, s 10, s 11] w)) (X := (fun i => (bif Nat.beq i 0 then (fun s w => s22_p1 K (s 5) w) else (fun _ _ => False)))) (X' := (fun i => (bif Nat.beq i 0 then (s22_p1_den K) else (fun _ _ => False)))) (R := s22_R K) (s := s) (w := w) (p := s22_p2 K B1 (s 0) (s 5) (s 10) (s 11) w) (q := s22_p2_den K (fun s w => B1 [s 0, s 5, s 10, s 11] w) s w) tr_id (fun i => (tr_bif (fun s w h => s22_p1_ok K s w @h) tr_id)) (by kernel_rfl) (by kernel_rfl) @h
def s22_p3 (K : Value → World → Prop) (B1 : List Value → World → Prop) (t0 t5 t10 t11 : Value) (w : World) : Prop :=
  boI .lss t11 t10 (fun t12 w =>
  ifb t12
  (lnS t0 (fun t15 w =>
  boI .gtr t15 (.int .i64 0) (fun t16 w =>
  ifb t16
  (lnS t0 (fun t22 w =>
  boI .rem t11 t22 (fun t23 w =>
  ixs 1 t0 t23 (fun t24 w =>
  ld1 t24 (fun t25 w =>
  ixs 1 t5 t11 (fun t26 w =>
  st1 t26 t25 (fun w =>
  s22_p2 K B1 t0 t5 t10 t11 w) w) w) w) w) w) w)
  (s22_p2 K B1 t0 t5 t10 t11 w)) w) w)
  (s22_p1 K t5 w)) w
def s22_p3_den (K : Value → World → Prop) (M1 : (Nat → Value) → World → Prop) : (Nat → Value) → World → Prop := denL Try.prog [(cd (Try.f22.body.getD .skip) [1, 1, 0, 1, 0, 0, 0]), (cd (Try.f22.body.getD .skip) [1, 1, 0, 1, 0, 0, 1, 0]), (cd (Try.f22.body.getD .skip) [1, 1, 0, 1, 0, 0, 1, 1, 0])] (s22_p2_den K M1) (fun i => (bif Nat.beq i 0 then (s22_p1_den K) else (fun _ _ => False))) (s22_R K)
theorem s22_p3_ok (K : Value → World → Prop) (B1 : List Value → World → Prop) (s : Nat → Value) (w : World) (h : s22_p3 K B1 (s 0) (s 5) (s 10) (s 11) w) : Tr (s22_p3_den K (fun s w => B1 [s 0, s 5, s 10, s 11] w) s w) :=
  tr_simple (P := Try.prog) (codes := [(cd (Try.f22.body.getD .skip) [1, 1, 0, 1, 0, 0, 0]), (cd (Try.f22.body.getD .skip) [1, 1, 0, 1, 0, 0, 1, 0]), (cd (Try.f22.body.getD .skip) [1, 1, 0, 1, 0, 0, 1, 1, 0])]) (N := (fun s w => s22_p2 K B1 (s 0) (s 5) (s 10) (s 11) w)) (N' := (s22_p2_den K (fun s w => B1 [s 0, s 5, s 10, s 11] w))) (X := (fun i => (bif Nat.beq i 0 then (fun s w => s22_p1 K (s 5) w) else (fun _ _ => False)))) (X' := (fun i => (bif Nat.beq i 0 then (s22_p1_den K) else (fun _ _ => False)))) (R := s22_R K) (s := s) (w := w) (p := s22_p3 K B1 (s 0) (s 5) (s 10) (s 11) w) (q := s22_p3_den K (fun s w => B1 [s 0, s 5, s 10, s 11] w) s w) (fun s w h => s22_p2_ok K B1 s w @h) (fun i => (tr_bif (fun s w h => s22_p1_ok K s w @h) tr_id)) (by kernel_rfl) (by kernel_rfl) @h
def s22_p4_F (K : Value → World → Prop) (B1 : List Value → World → Prop) (l : List Value) (w : World) : Prop :=
  match l with
  | [t0, t5, t10, t11] => s22_p3 K B1 t0 t5 t10 t11 w
  | _ => False
theorem s22_p4_Fe {K : Value → World → Prop} {B1 : List Value → World → Prop} {t0 t5 t10 t11 : Value} {w : World} : s22_p4_F K B1 [t0, t5, t10, t11] w = s22_p3 K B1 t0 t5 t10 t11 w := by kernel_rfl
def s22_p4 (K : Value → World → Prop) (t0 t5 t10 t11 : Value) (w : World) : Prop :=
  LoopL (s22_p4_F K) [t0, t5, t10, t11] w
def s22_p4_den (K : Value → World → Prop) : (Nat → Value) → World → Prop := fun s w => LoopP (fun M1 s w => s22_p3_den K M1 s w) s w
theorem s22_p4_ok (K : Value → World → Prop) (s : Nat → Value) (w : World) (h : s22_p4 K (s 0) (s 5) (s 10) (s 11) w) : Tr (s22_p4_den K s w) :=
  tr_loop (G := fun N' s w => s22_p3_den K N' s w) (F := s22_p4_F K) (sel := fun s => [s 0, s 5, s 10, s 11]) (s := s) (w := w) (p := s22_p4 K (s 0) (s 5) (s 10) (s 11) w) (q := s22_p4_den K s w) (fun B s w h => s22_p3_ok K B s w @h) (by kernel_rfl) (by kernel_rfl) @h
def s22_p5 (K : Value → World → Prop) (t0 t1 : Value) (w : World) : Prop :=
  mks 5 [(.int .u8 0)] 1 t1 t1 (fun t8 w =>
  lnS t8 (fun t10 w =>
  s22_p4 K t0 t8 t10 (.int .i64 0) w) w) w
def s22_p5_den (K : Value → World → Prop) : (Nat → Value) → World → Prop := denL Try.prog [(cd (Try.f22.body.getD .skip) [0]), (cd (Try.f22.body.getD .skip) [1, 0]), (cd (Try.f22.body.getD .skip) [1, 1, 0, 0])] (s22_p4_den K) (fun i => (fun _ _ => False)) (s22_R K)
theorem s22_p5_ok (K : Value → World → Prop) (s : Nat → Value) (w : World) (h : s22_p5 K (s 0) (s 1) w) : Tr (s22_p5_den K s w) :=
  tr_simple (P := Try.prog) (codes := [(cd (Try.f22.body.getD .skip) [0]), (cd (Try.f22.body.getD .skip) [1, 0]), (cd (Try.f22.body.getD .skip) [1, 1, 0, 0])]) (N := (fun s w => s22_p4 K (s 0) (s 5) (s 10) (s 11) w)) (N' := (s22_p4_den K)) (X := (fun i => (fun _ _ => False))) (X' := (fun i => (fun _ _ => False))) (R := s22_R K) (s := s) (w := w) (p := s22_p5 K (s 0) (s 1) w) (q := s22_p5_den K s w) (fun s w h => s22_p4_ok K s w @h) (fun i => tr_id) (by kernel_rfl) (by kernel_rfl) @h
/-- the call, from the text -/
theorem c22 (t0 t1 : Value) {K : Value → World → Prop} {w : World} (h : s22_p5 K t0 t1 w) : cl Try.prog 22 #[t0, t1] K w :=
  calls_of_tr (c := (Try.f22.body.getD .skip)) (fn := Try.f22) (q := s22_p5_den K (st0 #[t0, t1]) w) Try.func22 (by kernel_rfl) (by kernel_rfl) (Nat.le_of_ble_eq_true (by kernel_rfl)) (by kernel_rfl) (by kernel_rfl) (s22_p5_ok K (st0 #[t0, t1]) w @h)

/-! ### function 23 : e2e.octetsm.Digits -/
def s23_R (K : Value → World → Prop) (s : Nat → Value) (w : World) : Prop := retv Try.prog s Try.f23.results.toList (fun vs => K (pack vs) w) w
def s23_p1 (K : Value → World → Prop) (t7 : Value) (w : World) : Prop :=
  K t7 w
def s23_p1_den (K : Value → World → Prop) : (Nat → Value) → World → Prop := denL Try.prog [(cd (Try.f23.body.getD .skip) [1, 1, 1, 0]), (cd (Try.f23.body.getD .skip) [1, 1, 1, 1])] (fun _ _ => False) (fun i => (fun _ _ => False)) (s23_R K)
theorem s23_p1_ok (K : Value → World → Prop) (s : Nat → Value) (w : World) (h : s23_p1 K (s 7) w) : Tr (s23_p1_den K s w) :=
  tr_simple (P := Try.prog) (codes := [(cd (Try.f23.body.getD .skip) [1, 1, 1, 0]), (cd (Try.f23.body.getD .skip) [1, 1, 1, 1])]) (N := (fun _ _ => False)) (N' := (fun _ _ => False)) (X := (fun i => (fun _ _ => False))) (X' := (fun i => (fun _ _ => False))) (R := s23_R K) (s := s) (w := w) (p := s23_p1 K (s 7) w) (q := s23_p1_den K s w) tr_id (fun i => tr_id) (by kernel_rfl) (by kernel_rfl) @h
def s23_p2 (K : Value → World → Prop) (B1 : List Value → World → Prop) (t0 t1 t2 t7 t8 : Value) (w : World) : Prop :=
  boI .add t8 (.int .i64 1) (fun t15 w =>
  B1 [t0, t1, t2, t7, t15] w) w
def s23_p2_den (K : Value → World → Prop) (M1 : (Nat → Value) → World → Prop) : (Nat → Value) → World → Prop := denL Try.prog [(cd (Try.f23.body.getD .skip) [1, 1, 0, 1, 0, 0, 1, 1])] M1 (fun i => (bif Nat.beq i 0 then (s23_p1_den K) else (fun _ _ => False))) (s23_R K)
theorem s23_p2_ok (K : Value → World → Prop) (B1 : List Value → World → Prop) (s : Nat → Value) (w : World) (h : s23_p2 K B1 (s 0) (s 1) (s 2) (s 7) (s 8) w) : Tr (s23_p2_den K (fun s w => B1 [s 0, s 1, s 2, s 7, s 8] w) s w) :=
  tr_simple (P := Try.prog) (codes := [(cd (Try.f23.body.getD .skip) [1, 1, 0, 1, 0, 0, 1, 1])]) (N := (fun s w => B1 [s 0, s 1, s 2, s 7, s 8] w)) (N' := (fun s w => B1 [s 0, s 1, s 2, s 7, s 8] w)) (X := (fun i => (bif Nat.beq i 0 then (fun s w => s23_p1 K (s 7) w) else (fun _ _ => False)))) (X' := (fun i => (bif Nat.beq i 0 then (s23_p1_den K) else (fun _ _ => False)))) (R := s23_R K) (s := s) (w := w) (p := s23_p2 K B1 (s 0) (s 1) (s 2) (s 7) (s 8) w) (q := s23_p2_den K (fun s w => B1 [s 0, s 1, s 2, s 7, s 8] w) s w) tr_id (fun i => (tr_bif (fun s w h => s23_p1_ok K s w @h) tr_id)) (by kernel_rfl) (by kernel_rfl) @h
def s23_p3 (K : Value → World → Prop) (B1 : List Value → World → Prop) (t0 t1 t2 t7 t8 : Value) (w : World) : Prop :=
  boI .lss t8 t1 (fun t13 w =>
  ifb t13
  (ifb t2
  (boI .rem t0 (.int .u64 256) (fun t20 w =>
  cvi .u8 t20 (fun t21 w =>
  ixs 1 t7 t8 (fun t22 w =>
  st1 t22 t21 (fun w =>
  boI .quo t0 (.int .u64 256) (fun t33 w =>
  s23_p2 K B1 t33 t1 t2 t7 t8 w) w) w) w) w) w)
  (boI .sub t1 (.int .i64 1) (fun t25 w =>
  boI .sub t25 t8 (fun t27 w =>
  boI .rem t0 (.int .u64 256) (fun t29 w =>
  cvi .u8 t29 (fun t30 w =>
  ixs 1 t7 t27 (fun t31 w =>
  st1 t31 t30 (fun w =>
  boI .quo t0 (.int .u64 256) (fun t33_2 w =>
  s23_p2 K B1 t33_2 t1 t2 t7 t8 w) w) w) w) w) w) w) w))
  (s23_p1 K t7 w)) w
def s23_p3_den (K : Value → World → Prop) (M1 : (Nat → Value) → World → Prop) : (Nat → Value) → World → Prop := denL Try.prog [(cd (Try.f23.body.getD .skip) [1, 1, 0, 1, 0, 0, 0, 0]), (cd (Try.f23.body.getD .skip) [1, 1, 0, 1, 0, 0, 0, 1]), (cd (Try.f23.body.getD .skip) [1, 1, 0, 1, 0, 0, 1, 0])] (s23_p2_den K M1) (fun i => (bif Nat.beq i 0 then (s23_p1_den K) else (fun _ _ => False))) (s23_R K)
theorem s23_p3_ok (K : Value → World → Prop) (B1 : List Value → World → Prop) (s : Nat → Value) (w : World) (h : s23_p3 K B1 (s 0) (s 1) (s 2) (s 7) (s 8) w) : Tr (s23_p3_den K (fun s w => B1 [s 0, s 1, s 2, s 7, s 8] w) s w) :=
  tr_simple (P := Try.prog) (codes := [(cd (Try.f23.body.getD .skip) [1, 1, 0, 1, 0, 0, 0, 0]), (cd (Try.f23.body.getD .skip) [1, 1, 0, 1, 0, 0, 0, 1]), (cd (Try.f23.body.getD .skip) [1, 1, 0, 1, 0, 0, 1, 0])]) (N := (fun s w => s23_p2 K B1 (s 0) (s 1) (s 2) (s 7) (s 8) w)) (N' := (s23_p2_den K (fun s w => B1 [s 0, s 1, s 2, s 7, s 8] w))) (X := (fun i => (bif Nat.beq i 0 then (fun s w => s23_p1 K (s 7) w) else (fun _ _ => False)))) (X' := (fun i => (bif Nat.beq i 0 then (s23_p1_den K) else (fun _ _ => False)))) (R := s23_R K) (s := s) (w := w) (p := s23_p3 K B1 (s 0) (s 1) (s 2) (s 7) (s 8) w) (q := s23_p3_den K (fun s w => B1 [s 0, s 1, s 2, s 7, s 8] w) s w) (fun s w h => s23_p2_ok K B1 s w @h) (fun i => (tr_bif (fun s w h => s23_p1_ok K s w @h) tr_id)) (by kernel_rfl) (by kernel_rfl) @h
def s23_p4_F (K : Value → World → Prop) (B1 : List Value → World → Prop) (l : List Value) (w : World) : Prop :=
  match l with
  | [t0, t1, t2, t7, t8] => s23_p3 K B1 t0 t1 t2 t7 t8 w
  | _ => False
theorem s23_p4_Fe {K : Value → World → Prop} {B1 : List Value → World → Prop} {t0 t1 t2 t7 t8 : Value} {w : World} : s23_p4_F K B1 [t0, t1, t2, t7, t8] w = s23_p3 K B1 t0 t1 t2 t7 t8 w := by kernel_rfl
def s23_p4 (K : Value → World → Prop) (t0 t1 t2 t7 t8 : Value) (w : World) : Prop :=
  LoopL (s23_p4_F K) [t0, t1, t2, t7, t8] w
def s23_p4_den (K : Value → World → Prop) : (Nat → Value) → World → Prop := fun s w => LoopP (fun M1 s w => s23_p3_den K M1 s w) s w
theorem s23_p4_ok (K : Value → World → Prop) (s : Nat → Value) (w : World) (h : s23_p4 K (s 0) (s 1) (s 2) (s 7) (s 8) w) : Tr (s23_p4_den K s w) :=
  tr_loop (G := fun N' s w => s23_p3_den K N' s w) (F := s23_p4_F K) (sel := fun s => [s 0, s 1, s 2, s 7, s 8]) (s := s) (w := w) (p := s23_p4 K (s 0) (s 1) (s 2) (s 7) (s 8) w) (q := s23_p4_den K s w) (fun B s w h => s23_p3_ok K B s w @h) (by kernel_rfl) (by kernel_rfl) @h
def s23_p5 (K : Value → World → Prop) (t0 t1 t2 : Value) (w : World) : Prop :=
  mks 5 [(.int .u8 0)] 1 t1 t1 (fun t10 w =>
  s23_p4 K t0 t1 t2 t10 (.int .i64 0) w) w
def s23_p5_den (K : Value → World → Prop) : (Nat → Value) → World → Prop := denL Try.prog [(cd (Try.f23.body.getD .skip) [0]), (cd (Try.f23.body.getD .skip) [1, 0]), (cd (Try.f23.body.getD .skip) [1, 1, 0, 0])] (s23_p4_den K) (fun i => (fun _ _ => False)) (s23_R K)
theorem s23_p5_ok (K : Value → World → Prop) (s : Nat → Value) (w : World) (h : s23_p5 K (s 0) (s 1) (s 2) w) : Tr (s23_p5_den K s w) :=
  tr_simple (P := Try.prog) (codes := [(cd (Try.f23.body.getD .skip) [0]), (cd (Try.f23.body.getD .skip) [1, 0]), (cd (Try.f23.body.getD .skip) [1, 1, 0, 0])]) (N := (fun s w => s23_p4 K (s 0) (s 1) (s 2) (s 7) (s 8) w)) (N' := (s23_p4_den K)) (X := (fun i => (fun _ _ => False))) (X' := (fun i => (fun _ _ => False))) (R := s23_R K) (s := s) (w := w) (p := s23_p5 K (s 0) (s 1) (s 2) w) (q := s23_p5_den K s w) (fun s w h => s23_p4_ok K s w @h) (fun i => tr_id) (by kernel_rfl) (by kernel_rfl) @h
/-- the call, from the text -/
theorem c23 (t0 t1 t2 : Value) {K : Value → World → Prop} {w : World} (h : s23_p5 K t0 t1 t2 w) : cl Try.prog 23 #[t0, t1, t2] K w :=
  calls_of_tr (c := (Try.f23.body.getD .skip)) (fn := Try.f23) (q := s23_p5_den K (st0 #[t0, t1, t2]) w) Try.func23 (by kernel_rfl) (by kernel_rfl) (Nat.le_of_ble_eq_true (by kernel_rfl)) (by kernel_rfl) (by kernel_rfl) (s23_p5_ok K (st0 #[t0, t1, t2]) w @h)

/-! ### function 24 : e2e.octetslaw.sumHolds -/
def s24_R (K : Value → World → Prop) (s : Nat → Value) (w : World) : Prop := retv Try.prog s Try.f24.results.toList (fun vs => K (pack vs) w) w
def s24_p1 (K : Value → World → Prop) (t0 t1 t2 : Value) (w : World) : Prop :=
  lnS t0 (fun t70 w =>
  boI .eql t70 (.int .i64 0) (fun t71 w =>
  ifb t71
  (K (.bool true) w)
  (cl Try.prog 11 #[t0] (fun t73 w =>
  apq 5 [(.int .u8 0)] 1 t73 t1 (fun t75 w =>
  apq 5 [(.int .u8 0)] 1 t75 t2 (fun t77 w =>
  lnS t0 (fun t79 w =>
  cl Try.prog 66 #[t79, (.int .u8 90)] (fun t80 w =>
  cl Try.prog 41 #[t80, t77] (fun t83 w =>
  gd t83 true (fun K w => K t80 w) (fun t85 w =>
  gd t83 true (fun K w => K t0 w) (fun t86 w =>
  gd t83 true (fun K w => K t1 w) (fun t87 w =>
  gd t83 true (cl Try.prog 65 #[t86, t87]) (fun t88 w =>
  gd t83 true (fun K w => K t2 w) (fun t89 w =>
  gd t83 true (cl Try.prog 65 #[t88, t89]) (fun t90 w =>
  gd t83 true (cl Try.prog 18 #[t85, t90]) (fun t91 w =>
  pk t83 t91 (.bool false) (fun t92 w =>
  K t92 w) w) w) w) w) w) w) w) w) w) w) w) w) w) w)) w) w
def s24_p1_den (K : Value → World → Prop) : (Nat → Value) → World → Prop := denL Try.prog [(cd (Try.f24.body.getD .skip) [1, 1, 1, 1, 1, 1, 1, 0, 0]), (cd (Try.f24.body.getD .skip) [1, 1, 1, 1, 1, 1, 1, 0, 1]), (cd (Try.f24.body.getD .skip) [1, 1, 1, 1, 1, 1, 1, 1, 0]), (cd (Try.f24.body.getD .skip) [1, 1, 1, 1, 1, 1, 1, 1, 1, 0]), (cd (Try.f24.body.getD .skip) [1, 1, 1, 1, 1, 1, 1, 1, 1, 1, 0]), (cd (Try.f24.body.getD .skip) [1, 1, 1, 1, 1, 1, 1, 1, 1, 1, 1])] (fun _ _ => False) (fun i => (fun _ _ => False)) (s24_R K)
theorem s24_p1_ok (K : Value → World → Prop) (s : Nat → Value) (w : World) (h : s24_p1 K (s 0) (s 1) (s 2) w) : Tr (s24_p1_den K s w) :=
  tr_simple (P := Try.prog) (codes := [(cd (Try.f24.body.getD .skip) [1, 1, 1, 1, 1, 1, 1, 0, 0]), (cd (Try.f24.body.getD .skip) [1, 1, 1, 1, 1, 1, 1, 0, 1]), (cd (Try.f24.body.getD .skip) [1, 1, 1, 1, 1, 1, 1, 1, 0]), (cd (Try.f24.body.getD .skip) [1, 1, 1, 1, 1, 1, 1, 1, 1, 0]), (cd (Try.f24.body.getD .skip) [1, 1, 1, 1, 1, 1, 1, 1, 1, 1, 0]), (cd (Try.f24.body.getD .skip) [1, 1, 1, 1, 1, 1, 1, 1, 1, 1, 1])]) (N := (fun _ _ => False)) (N' := (fun _ _ => False)) (X := (fun i => (fun _ _ => False))) (X' := (fun i => (fun _ _ => False))) (R := s24_R K) (s := s) (w := w) (p := s24_p1 K (s 0) (s 1) (s 2) w) (q := s24_p1_den K s w) tr_id (fun i => tr_id) (by kernel_rfl) (by kernel_rfl) @h
def s24_p2 (K : Value → World → Prop) (t0 t1 t2 : Value) (w : World) : Prop :=
  cl Try.prog 55 #[t0, t1] (fun t15 w =>
  exq t15 0 (fun t16 w =>
  exq t15 1 (fun t17 w =>
  cl Try.prog 65 #[t0, t1] (fun t20 w =>
  cl Try.prog 18 #[t20, t16] (fun t22 w =>
  un .not t22 (fun t23 w =>
  gd t23 false (fun K w => K t1 w) (fun t25 w =>
  gd t23 false (fun K w => K t0 w) (fun t26 w =>
  gd t23 false (cl Try.prog 65 #[t25, t26]) (fun t27 w =>
  gd t23 false (fun K w => K t16 w) (fun t28 w =>
  gd t23 false (cl Try.prog 18 #[t27, t28]) (fun t29 w =>
  gd t23 false (un .not t29) (fun t30 w =>
  pk t23 (.bool true) t30 (fun t31 w =>
  ifb t31
  (K (.bool false) w)
  (cl Try.prog 65 #[t0, t1] (fun t34 w =>
  cl Try.prog 65 #[t34, t2] (fun t36 w =>
  cl Try.prog 65 #[t1, t2] (fun t40 w =>
  cl Try.prog 65 #[t0, t40] (fun t41 w =>
  cl Try.prog 18 #[t36, t41] (fun t42 w =>
  un .not t42 (fun t43 w =>
  ifb t43
  (K (.bool false) w)
  (lnS t0 (fun t46 w =>
  mks 5 [(.int .u8 0)] 1 t46 t46 (fun t47 w =>
  cl Try.prog 65 #[t0, t47] (fun t48 w =>
  cl Try.prog 18 #[t48, t0] (fun t50 w =>
  un .not t50 (fun t51 w =>
  ifb t51
  (K (.bool false) w)
  (lnS t0 (fun t53 w =>
  cl Try.prog 66 #[t53, (.int .u8 255)] (fun t54 w =>
  cl Try.prog 63 #[t0] (fun t56 w =>
  ifb t56
  (cl Try.prog 65 #[t0, t54] (fun t59 w =>
  cl Try.prog 18 #[t59, t54] (fun t61 w =>
  un .not t61 (fun t62 w =>
  ifb t62
  (K (.bool false) w)
  (s24_p1 K t0 t1 t2 w)) w) w) w)
  (cl Try.prog 65 #[t0, t54] (fun t65 w =>
  cl Try.prog 18 #[t65, t0] (fun t67 w =>
  un .not t67 (fun t68 w =>
  ifb t68
  (K (.bool false) w)
  (s24_p1 K t0 t1 t2 w)) w) w) w)) w) w) w)) w) w) w) w) w)) w) w) w) w) w) w)) w) w) w) w) w) w) w) w) w) w) w) w) w
def s24_p2_den (K : Value → World → Prop) : (Nat → Value) → World → Prop := denL Try.prog [(cd (Try.f24.body.getD .skip) [0]), (cd (Try.f24.body.getD .skip) [1, 0]), (cd (Try.f24.body.getD .skip) [1, 1, 0, 0]), (cd (Try.f24.body.getD .skip) [1, 1, 0, 1]), (cd (Try.f24.body.getD .skip) [1, 1, 1, 0, 0]), (cd (Try.f24.body.getD .skip) [1, 1, 1, 0, 1]), (cd (Try.f24.body.getD .skip) [1, 1, 1, 1, 0, 0]), (cd (Try.f24.body.getD .skip) [1, 1, 1, 1, 0, 1]), (cd (Try.f24.body.getD .skip) [1, 1, 1, 1, 1, 0]), (cd (Try.f24.body.getD .skip) [1, 1, 1, 1, 1, 1, 0, 0]), (cd (Try.f24.body.getD .skip) [1, 1, 1, 1, 1, 1, 0, 1])] (s24_p1_den K) (fun i => (fun _ _ => False)) (s24_R K)
theorem s24_p2_ok (K : Value → World → Prop) (s : Nat → Value) (w : World) (h : s24_p2 K (s 0) (s 1) (s 2) w) : Tr (s24_p2_den K s w) :=
  tr_simple (P := Try.prog) (codes := [(cd (Try.f24.body.getD .skip) [0]), (cd (Try.f24.body.getD .skip) [1, 0]), (cd (Try.f24.body.getD .skip) [1, 1, 0, 0]), (cd (Try.f24.body.getD .skip) [1, 1, 0, 1]), (cd (Try.f24.body.getD .skip) [1, 1, 1, 0, 0]), (cd (Try.f24.body.getD .skip) [1, 1, 1, 0, 1]), (cd (Try.f24.body.getD .skip) [1, 1, 1, 1, 0, 0]), (cd (Try.f24.body.getD .skip) [1, 1, 1, 1, 0, 1]), (cd (Try.f24.body.getD .skip) [1, 1, 1, 1, 1, 0]), (cd (Try.f24.body.getD .skip) [1, 1, 1, 1, 1, 1, 0, 0]), (cd (Try.f24.body.getD .skip) [1, 1, 1, 1, 1, 1, 0, 1])]) (N := (fun s w => s24_p1 K (s 0) (s 1) (s 2) w)) (N' := (s24_p1_den K)) (X := (fun i => (fun _ _ => False))) (X' := (fun i => (fun _ _ => False))) (R := s24_R K) (s := s) (w := w) (p := s24_p2 K (s 0) (s 1) (s 2) w) (q := s24_p2_den K s w) (fun s w h => s24_p1_ok K s w @h) (fun i => tr_id) (by kernel_rfl) (by kernel_rfl) @h
/-- the call, from the text -/
theorem c24 (t0 t1 t2 : Value) {K : Value → World → Prop} {w : World} (h : s24_p2 K t0 t1 t2 w) : cl Try.prog 24 #[t0, t1, t2] K w :=
  calls_of_tr (c := (Try.f24.body.getD .skip)) (fn := Try.f24) (q := s24_p2_den K (st0 #[t0, t1, t2]) w) Try.func24 (by kernel_rfl) (by kernel_rfl) (Nat.le_of_ble_eq_true (by kernel_rfl)) (by kernel_rfl) (by kernel_rfl) (s24_p2_ok K (st0 #[t0, t1, t2]) w @h)

/-! ### function 25 : e2e.octetslaw.storeHolds -/
def s25_R (K : Value → World → Prop) (s : Nat → Value) (w : World) : Prop := retv Try.prog s Try.f25.results.toList (fun vs => K (pack vs) w) w
def s25_p1 (K : Value → World → Prop) (w : World) : Prop :=
  K (.bool true) w
def s25_p1_den (K : Value → World → Prop) : (Nat → Value) → World → Prop := denL Try.prog [(cd (Try.f25.body.getD .skip) [1, 1, 1, 1, 1, 1, 1, 1, 1, 1, 0]), (cd (Try.f25.body.getD .skip) [1, 1, 1, 1, 1, 1, 1, 1, 1, 1, 1])] (fun _ _ => False) (fun i => (fun _ _ => False)) (s25_R K)
theorem s25_p1_ok (K : Value → World → Prop) (s : Nat → Value) (w : World) (h : s25_p1 K w) : Tr (s25_p1_den K s w) :=
  tr_simple (P := Try.prog) (codes := [(cd (Try.f25.body.getD .skip) [1, 1, 1, 1, 1, 1, 1, 1, 1, 1, 0]), (cd (Try.f25.body.getD .skip) [1, 1, 1, 1, 1, 1, 1, 1, 1, 1, 1])]) (N := (fun _ _ => False)) (N' := (fun _ _ => False)) (X := (fun i => (fun _ _ => False))) (X' := (fun i => (fun _ _ => False))) (R := s25_R K) (s := s) (w := w) (p := s25_p1 K w) (q := s25_p1_den K s w) tr_id (fun i => tr_id) (by kernel_rfl) (by kernel_rfl) @h
def s25_p2 (K : Value → World → Prop) (B1 : List Value → World → Prop) (t0 t1 t2 t3 t9 t82 t83 t84 : Value) (w : World) : Prop :=
  boI .add t84 (.int .i64 1) (fun t139 w =>
  B1 [t0, t1, t2, t3, t9, t82, t83, t139] w) w
def s25_p2_den (K : Value → World → Prop) (M1 : (Nat → Value) → World → Prop) : (Nat → Value) → World → Prop := denL Try.prog [(cd (Try.f25.body.getD .skip) [1, 1, 1, 1, 1, 1, 1, 1, 1, 0, 1, 0, 0, 1, 1, 1])] M1 (fun i => (bif Nat.beq i 2 then (s25_p1_den K) else (fun _ _ => False))) (s25_R K)
theorem s25_p2_ok (K : Value → World → Prop) (B1 : List Value → World → Prop) (s : Nat → Value) (w : World) (h : s25_p2 K B1 (s 0) (s 1) (s 2) (s 3) (s 9) (s 82) (s 83) (s 84) w) : Tr (s25_p2_den K (fun s w => B1 [s 0, s 1, s 2, s 3, s 9, s 82, s 83, s 84] w) s w) :=
  tr_simple (P := Try.prog) (codes := [(cd (Try.f25.body.getD .skip) [1, 1, 1, 1, 1, 1, 1, 1, 1, 0, 1, 0, 0, 1, 1, 1])]) (N := (fun s w => B1 [s 0, s 1, s 2, s 3, s 9, s 82, s 83, s 84] w)) (N' := (fun s w => B1 [s 0, s 1, s 2, s 3, s 9, s 82, s 83, s 84] w)) (X := (fun i => (bif Nat.beq i 2 then (fun s w => s25_p1 K w) else (fun _ _ => False)))) (X' := (fun i => (bif Nat.beq i 2 then (s25_p1_den K) else (fun _ _ => False)))) (R := s25_R K) (s := s) (w := w) (p := s25_p2 K B1 (s 0) (s 1) (s 2) (s 3) (s 9) (s 82) (s 83) (s 84) w) (q := s25_p2_den K (fun s w => B1 [s 0, s 1, s 2, s 3, s 9, s 82, s 83, s 84] w) s w) tr_id (fun i => (tr_bif (fun s w h => s25_p1_ok K s w @h) tr_id)) (by kernel_rfl) (by kernel_rfl) @h
def s25_p3 (K : Value → World → Prop) (B1 : List Value → World → Prop) (t0 t1 t2 t3 t9 t82 t83 t84 t138 : Value) (w : World) : Prop :=
  ifb t138
  (K (.bool false) w)
  (s25_p2 K B1 t0 t1 t2 t3 t9 t82 t83 t84 w)
def s25_p3_den (K : Value → World → Prop) (M1 : (Nat → Value) → World → Prop) : (Nat → Value) → World → Prop := denL Try.prog [(cd (Try.f25.body.getD .skip) [1, 1, 1, 1, 1, 1, 1, 1, 1, 0, 1, 0, 0, 1, 1, 0, 0, 1, 1, 1, 1, 1, 1])] (s25_p2_den K M1) (fun i => (bif Nat.beq i 3 then (s25_p2_den K M1) else (bif Nat.beq i 2 then (s25_p1_den K) else (fun _ _ => False)))) (s25_R K)
theorem s25_p3_ok (K : Value → World → Prop) (B1 : List Value → World → Prop) (s : Nat → Value) (w : World) (h : s25_p3 K B1 (s 0) (s 1) (s 2) (s 3) (s 9) (s 82) (s 83) (s 84) (s 138) w) : Tr (s25_p3_den K (fun s w => B1 [s 0, s 1, s 2, s 3, s 9, s 82, s 83, s 84] w) s w) :=
  tr_simple (P := Try.prog) (codes := [(cd (Try.f25.body.getD .skip) [1, 1, 1, 1, 1, 1, 1, 1, 1, 0, 1, 0, 0, 1, 1, 0, 0, 1, 1, 1, 1, 1, 1])]) (N := (fun s w => s25_p2 K B1 (s 0) (s 1) (s 2) (s 3) (s 9) (s 82) (s 83) (s 84) w)) (N' := (s25_p2_den K (fun s w => B1 [s 0, s 1, s 2, s 3, s 9, s 82, s 83, s 84] w))) (X := (fun i => (bif Nat.beq i 3 then (fun s w => s25_p2 K B1 (s 0) (s 1) (s 2) (s 3) (s 9) (s 82) (s 83) (s 84) w) else (bif Nat.beq i 2 then (fun s w => s25_p1 K w) else (fun _ _ => False))))) (X' := (fun i => (bif Nat.beq i 3 then (s25_p2_den K (fun s w => B1 [s 0, s 1, s 2, s 3, s 9, s 82, s 83, s 84] w)) else (bif Nat.beq i 2 then (s25_p1_den K) else (fun _ _ => False))))) (R := s25_R K) (s := s) (w := w) (p := s25_p3 K B1 (s 0) (s 1) (s 2) (s 3) (s 9) (s 82) (s 83) (s 84) (s 138) w) (q := s25_p3_den K (fun s w => B1 [s 0, s 1, s 2, s 3, s 9, s 82, s 83, s 84] w) s w) (fun s w h => s25_p2_ok K B1 s w @h) (fun i => (tr_bif (fun s w h => s25_p2_ok K B1 s w @h) (tr_bif (fun s w h => s25_p1_ok K s w @h) tr_id))) (by kernel_rfl) (by kernel_rfl) @h
def s25_p4_d (K : Value → World → Prop) (B1 : List Value → World → Prop) (t0 t1 t2 t3 t9 t14 t15 t82 t83 t84 : Value) (w0 w : World) : Prop :=
  boI .add t1 t2 (fun t131 _ =>
  sls 1 t15 (some t1) (some t131) (fun t132 _ =>
  cl Try.prog 37 #[(.slice none 0 0), t2, t14, t3] (fun t136 w =>
  Below w0.heap.size w0 w ∧
  cl Try.prog 18 #[t132, t136] (fun t137 w =>
  un .not t137 (fun t138 w =>
  s25_p3 K B1 t0 t1 t2 t3 t9 t82 t83 t84 t138 w) w) w) w) w0) w0
def s25_p4 (K : Value → World → Prop) (B1 : List Value → World → Prop) (t0 t1 t2 t3 t9 t14 t15 t82 t83 t84 : Value) (w : World) : Prop := s25_p4_d K B1 t0 t1 t2 t3 t9 t14 t15 t82 t83 t84 (drw w) (drw w)
def s25_p4_den (K : Value → World → Prop) (M1 : (Nat → Value) → World → Prop) : (Nat → Value) → World → Prop := denL Try.prog [(cd (Try.f25.body.getD .skip) [1, 1, 1, 1, 1, 1, 1, 1, 1, 0, 1, 0, 0, 1, 1, 0, 0, 1, 1, 1, 1, 1, 0])] (s25_p3_den K M1) (fun i => (bif Nat.beq i 3 then (s25_p2_den K M1) else (bif Nat.beq i 2 then (s25_p1_den K) else (fun _ _ => False)))) (s25_R K)
theorem s25_p4_ok (K : Value → World → Prop) (B1 : List Value → World → Prop) (s : Nat → Value) (w : World) (h : s25_p4 K B1 (s 0) (s 1) (s 2) (s 3) (s 9) (s 14) (s 15) (s 82) (s 83) (s 84) w) : Tr (s25_p4_den K (fun s w => B1 [s 0, s 1, s 2, s 3, s 9, s 82, s 83, s 84] w) s w) :=
  tr_draw (P := Try.prog) (ops := (ro (cd (Try.f25.body.getD .skip) [1, 1, 1, 1, 1, 1, 1, 1, 1, 0, 1, 0, 0, 1, 1, 0, 0, 1, 1, 1, 1, 1, 0]))) (ms := [0, 0, 0, 0, 12, 31, 0, 0, 0, 448, 1023, 2047]) (cs := [0, 1, 2, 3, 4, 5, 6, 7, 8]) (N := (fun s w => s25_p3 K B1 (s 0) (s 1) (s 2) (s 3) (s 9) (s 82) (s 83) (s 84) (s 138) w)) (N' := (s25_p3_den K (fun s w => B1 [s 0, s 1, s 2, s 3, s 9, s 82, s 83, s 84] w))) (s := s) (w := w) (p := s25_p4 K B1 (s 0) (s 1) (s 2) (s 3) (s 9) (s 14) (s 15) (s 82) (s 83) (s 84) w) (q := s25_p4_den K (fun s w => B1 [s 0, s 1, s 2, s 3, s 9, s 82, s 83, s 84] w) s w) (by kernel_rfl) (by kernel_rfl) (fun s w h => s25_p3_ok K B1 s w @h) (by kernel_rfl) (by kernel_rfl) @h
def s25_p5 (K : Value → World → Prop) (B1 : List Value → World → Prop) (t0 t1 t2 t3 t9 t14 t15 t82 t83 t84 t126 : Value) (w : World) : Prop :=
  ifb t126
  (K (.bool false) w)
  (s25_p4 K B1 t0 t1 t2 t3 t9 t14 t15 t82 t83 t84 w)
def s25_p5_den (K : Value → World → Prop) (M1 : (Nat → Value) → World → Prop) : (Nat → Value) → World → Prop := denL Try.prog [(cd (Try.f25.body.getD .skip) [1, 1, 1, 1, 1, 1, 1, 1, 1, 0, 1, 0, 0, 1, 1, 0, 0, 1, 1, 1, 1, 0, 1])] (s25_p4_den K M1) (fun i => (bif Nat.beq i 3 then (s25_p2_den K M1) else (bif Nat.beq i 2 then (s25_p1_den K) else (fun _ _ => False)))) (s25_R K)
theorem s25_p5_ok (K : Value → World → Prop) (B1 : List Value → World → Prop) (s : Nat → Value) (w : World) (h : s25_p5 K B1 (s 0) (s 1) (s 2) (s 3) (s 9) (s 14) (s 15) (s 82) (s 83) (s 84) (s 126) w) : Tr (s25_p5_den K (fun s w => B1 [s 0, s 1, s 2, s 3, s 9, s 82, s 83, s 84] w) s w) :=
  tr_simple (P := Try.prog) (codes := [(cd (Try.f25.body.getD .skip) [1, 1, 1, 1, 1, 1, 1, 1, 1, 0, 1, 0, 0, 1, 1, 0, 0, 1, 1, 1, 1, 0, 1])]) (N := (fun s w => s25_p4 K B1 (s 0) (s 1) (s 2) (s 3) (s 9) (s 14) (s 15) (s 82) (s 83) (s 84) w)) (N' := (s25_p4_den K (fun s w => B1 [s 0, s 1, s 2, s 3, s 9, s 82, s 83, s 84] w))) (X := (fun i => (bif Nat.beq i 3 then (fun s w => s25_p2 K B1 (s 0) (s 1) (s 2) (s 3) (s 9) (s 82) (s 83) (s 84) w) else (bif Nat.beq i 2 then (fun s w => s25_p1 K w) else (fun _ _ => False))))) (X' := (fun i => (bif Nat.beq i 3 then (s25_p2_den K (fun s w => B1 [s 0, s 1, s 2, s 3, s 9, s 82, s 83, s 84] w)) else (bif Nat.beq i 2 then (s25_p1_den K) else (fun _ _ => False))))) (R := s25_R K) (s := s) (w := w) (p := s25_p5 K B1 (s 0) (s 1) (s 2) (s 3) (s 9) (s 14) (s 15) (s 82) (s 83) (s 84) (s 126) w) (q := s25_p5_den K (fun s w => B1 [s 0, s 1, s 2, s 3, s 9, s 82, s 83, s 84] w) s w) (fun s w h => s25_p4_ok K B1 s w @h) (fun i => (tr_bif (fun s w h => s25_p2_ok K B1 s w @h) (tr_bif (fun s w h => s25_p1_ok K s w @h) tr_id))) (by kernel_rfl) (by kernel_rfl) @h
def s25_p6_d (K : Value → World → Prop) (B1 : List Value → World → Prop) (J : World → Prop) (t0 t1 t2 t3 t9 t14 t15 t82 t83 t84 : Value) (w0 w : World) : Prop :=
  sls 1 t15 none (some t1) (fun t107 _ =>
  sls 1 t0 none (some t1) (fun t110 _ =>
  Go.Sh.V.qj J (cl Try.prog 18 #[t107, t110]) (fun t111 =>
  un .not t111 (fun t112 _ =>
  gd t112 false (fun K w => K t15 w) (fun t114 _ =>
  gd t112 false (fun K w => K t1 w) (fun t115 _ =>
  gd t112 false (fun K w => K t2 w) (fun t116 _ =>
  gd t112 false (boI .add t115 t116) (fun t117 _ =>
  gd t112 false (sls 1 t114 (some t117) none) (fun t118 _ =>
  gd t112 false (fun K w => K t0 w) (fun t119 _ =>
  gd t112 false (fun K w => K t1 w) (fun t120 _ =>
  gd t112 false (fun K w => K t2 w) (fun t121 _ =>
  gd t112 false (boI .add t120 t121) (fun t122 _ =>
  gd t112 false (sls 1 t119 (some t122) none) (fun t123 _ =>
  Go.Sh.V.qj J (gd t112 false (cl Try.prog 18 #[t118, t123])) (fun t124 =>
  gd t112 false (un .not t124) (fun t125 _ =>
  pk t112 (.bool true) t125 (fun t126 _ =>
  ∀ w, J w →
  s25_p5 K B1 t0 t1 t2 t3 t9 t14 t15 t82 t83 t84 t126 w) w0) w0)) w0) w0) w0) w0) w0) w0) w0) w0) w0) w0) w0)) w0) w0
def s25_p6 (K : Value → World → Prop) (B1 : List Value → World → Prop) (t0 t1 t2 t3 t9 t14 t15 t82 t83 t84 : Value) (w : World) : Prop := ∃ J : World → Prop, J (drw w) ∧ s25_p6_d K B1 J t0 t1 t2 t3 t9 t14 t15 t82 t83 t84 (drw w) (drw w)
def s25_p6_den (K : Value → World → Prop) (M1 : (Nat → Value) → World → Prop) : (Nat → Value) → World → Prop := denL Try.prog [(cd (Try.f25.body.getD .skip) [1, 1, 1, 1, 1, 1, 1, 1, 1, 0, 1, 0, 0, 1, 1, 0, 0, 1, 1, 1, 1, 0, 0])] (s25_p5_den K M1) (fun i => (bif Nat.beq i 3 then (s25_p2_den K M1) else (bif Nat.beq i 2 then (s25_p1_den K) else (fun _ _ => False)))) (s25_R K)
theorem s25_p6_ok (K : Value → World → Prop) (B1 : List Value → World → Prop) (s : Nat → Value) (w : World) (h : s25_p6 K B1 (s 0) (s 1) (s 2) (s 3) (s 9) (s 14) (s 15) (s 82) (s 83) (s 84) w) : Tr (s25_p6_den K (fun s w => B1 [s 0, s 1, s 2, s 3, s 9, s 82, s 83, s 84] w) s w) :=
  Go.Sh.V.tr_drawV (P := Try.prog) (ops := (ro (cd (Try.f25.body.getD .skip) [1, 1, 1, 1, 1, 1, 1, 1, 1, 0, 1, 0, 0, 1, 1, 0, 0, 1, 1, 1, 1, 0, 0]))) (cs := [0, 1, 2, 3, 4, 5, 6, 7, 8, 9, 10, 11, 12, 13, 14, 15, 16, 17, 18, 19, 20, 21]) (N := (fun s w => s25_p5 K B1 (s 0) (s 1) (s 2) (s 3) (s 9) (s 14) (s 15) (s 82) (s 83) (s 84) (s 126) w)) (N' := (s25_p5_den K (fun s w => B1 [s 0, s 1, s 2, s 3, s 9, s 82, s 83, s 84] w))) (s := s) (w := w) (p := fun J => s25_p6_d K B1 J (s 0) (s 1) (s 2) (s 3) (s 9) (s 14) (s 15) (s 82) (s 83) (s 84) (drw w) (drw w)) (q := s25_p6_den K (fun s w => B1 [s 0, s 1, s 2, s 3, s 9, s 82, s 83, s 84] w) s w) (by kernel_rfl) (by kernel_rfl) (fun s w h => s25_p5_ok K B1 s w @h) (by kernel_rfl) (by kernel_rfl) @h
def s25_p7 (K : Value → World → Prop) (B1 : List Value → World → Prop) (t0 t1 t2 t3 t9 t82 t83 t84 : Value) (w : World) : Prop :=
  ixs 1 t82 t84 (fun t86 w =>
  ld1 t86 (fun t87 w =>
  cl Try.prog 32 #[t0] (fun t89 w =>
  sls 1 t89 (some t1) none (fun t92 w =>
  cl Try.prog 36 #[t92, t2, t87, t3] (fun t96 w =>
  sls 1 t89 (some t1) none (fun t99 w =>
  cl Try.prog 35 #[t99, t2, t87] (fun t102 w =>
  boI .neq t102 t9 (fun t104 w =>
  ifb t104
  (K (.bool false) w)
  (s25_p6 K B1 t0 t1 t2 t3 t9 t87 t89 t82 t83 t84 w)) w) w) w) w) w) w) w) w
def s25_p7_den (K : Value → World → Prop) (M1 : (Nat → Value) → World → Prop) : (Nat → Value) → World → Prop := denL Try.prog [(cd (Try.f25.body.getD .skip) [1, 1, 1, 1, 1, 1, 1, 1, 1, 0, 1, 0, 0, 1, 1, 0, 0, 0]), (cd (Try.f25.body.getD .skip) [1, 1, 1, 1, 1, 1, 1, 1, 1, 0, 1, 0, 0, 1, 1, 0, 0, 1, 0]), (cd (Try.f25.body.getD .skip) [1, 1, 1, 1, 1, 1, 1, 1, 1, 0, 1, 0, 0, 1, 1, 0, 0, 1, 1, 0]), (cd (Try.f25.body.getD .skip) [1, 1, 1, 1, 1, 1, 1, 1, 1, 0, 1, 0, 0, 1, 1, 0, 0, 1, 1, 1, 0, 0]), (cd (Try.f25.body.getD .skip) [1, 1, 1, 1, 1, 1, 1, 1, 1, 0, 1, 0, 0, 1, 1, 0, 0, 1, 1, 1, 0, 1])] (s25_p6_den K M1) (fun i => (bif Nat.beq i 3 then (s25_p2_den K M1) else (bif Nat.beq i 2 then (s25_p1_den K) else (fun _ _ => False)))) (s25_R K)
theorem s25_p7_ok (K : Value → World → Prop) (B1 : List Value → World → Prop) (s : Nat → Value) (w : World) (h : s25_p7 K B1 (s 0) (s 1) (s 2) (s 3) (s 9) (s 82) (s 83) (s 84) w) : Tr (s25_p7_den K (fun s w => B1 [s 0, s 1, s 2, s 3, s 9, s 82, s 83, s 84] w) s w) :=
  tr_simple (P := Try.prog) (codes := [(cd (Try.f25.body.getD .skip) [1, 1, 1, 1, 1, 1, 1, 1, 1, 0, 1, 0, 0, 1, 1, 0, 0, 0]), (cd (Try.f25.body.getD .skip) [1, 1, 1, 1, 1, 1, 1, 1, 1, 0, 1, 0, 0, 1, 1, 0, 0, 1, 0]), (cd (Try.f25.body.getD .skip) [1, 1, 1, 1, 1, 1, 1, 1, 1, 0, 1, 0, 0, 1, 1, 0, 0, 1, 1, 0]), (cd (Try.f25.body.getD .skip) [1, 1, 1, 1, 1, 1, 1, 1, 1, 0, 1, 0, 0, 1, 1, 0, 0, 1, 1, 1, 0, 0]), (cd (Try.f25.body.getD .skip) [1, 1, 1, 1, 1, 1, 1, 1, 1, 0, 1, 0, 0, 1, 1, 0, 0, 1, 1, 1, 0, 1])]) (N := (fun s w => s25_p6 K B1 (s 0) (s 1) (s 2) (s 3) (s 9) (s 14) (s 15) (s 82) (s 83) (s 84) w)) (N' := (s25_p6_den K (fun s w => B1 [s 0, s 1, s 2, s 3, s 9, s 82, s 83, s 84] w))) (X := (fun i => (bif Nat.beq i 3 then (fun s w => s25_p2 K B1 (s 0) (s 1) (s 2) (s 3) (s 9) (s 82) (s 83) (s 84) w) else (bif Nat.beq i 2 then (fun s w => s25_p1 K w) else (fun _ _ => False))))) (X' := (fun i => (bif Nat.beq i 3 then (s25_p2_den K (fun s w => B1 [s 0, s 1, s 2, s 3, s 9, s 82, s 83, s 84] w)) else (bif Nat.beq i 2 then (s25_p1_den K) else (fun _ _ => False))))) (R := s25_R K) (s := s) (w := w) (p := s25_p7 K B1 (s 0) (s 1) (s 2) (s 3) (s 9) (s 82) (s 83) (s 84) w) (q := s25_p7_den K (fun s w => B1 [s 0, s 1, s 2, s 3, s 9, s 82, s 83, s 84] w) s w) (fun s w h => s25_p6_ok K B1 s w @h) (fun i => (tr_bif (fun s w h => s25_p2_ok K B1 s w @h) (tr_bif (fun s w h => s25_p1_ok K s w @h) tr_id))) (by kernel_rfl) (by kernel_rfl) @h
def s25_p8 (K : Value → World → Prop) (B1 : List Value → World → Prop) (t0 t1 t2 t3 t9 t82 t83 t84 : Value) (w : World) : Prop :=
  boI .lss t84 t83 (fun t85 w =>
  ifb t85
  (s25_p7 K B1 t0 t1 t2 t3 t9 t82 t83 t84 w)
  (s25_p1 K w)) w
def s25_p8_den (K : Value → World → Prop) (M1 : (Nat → Value) → World → Prop) : (Nat → Value) → World → Prop := denL Try.prog [(cd (Try.f25.body.getD .skip) [1, 1, 1, 1, 1, 1, 1, 1, 1, 0, 1, 0, 0, 0]), (cd (Try.f25.body.getD .skip) [1, 1, 1, 1, 1, 1, 1, 1, 1, 0, 1, 0, 0, 1, 0])] (s25_p7_den K M1) (fun i => (bif Nat.beq i 2 then (s25_p1_den K) else (fun _ _ => False))) (s25_R K)
theorem s25_p8_ok (K : Value → World → Prop) (B1 : List Value → World → Prop) (s : Nat → Value) (w : World) (h : s25_p8 K B1 (s 0) (s 1) (s 2) (s 3) (s 9) (s 82) (s 83) (s 84) w) : Tr (s25_p8_den K (fun s w => B1 [s 0, s 1, s 2, s 3, s 9, s 82, s 83, s 84] w) s w) :=
  tr_simple (P := Try.prog) (codes := [(cd (Try.f25.body.getD .skip) [1, 1, 1, 1, 1, 1, 1, 1, 1, 0, 1, 0, 0, 0]), (cd (Try.f25.body.getD .skip) [1, 1, 1, 1, 1, 1, 1, 1, 1, 0, 1, 0, 0, 1, 0])]) (N := (fun s w => s25_p7 K B1 (s 0) (s 1) (s 2) (s 3) (s 9) (s 82) (s 83) (s 84) w)) (N' := (s25_p7_den K (fun s w => B1 [s 0, s 1, s 2, s 3, s 9, s 82, s 83, s 84] w))) (X := (fun i => (bif Nat.beq i 2 then (fun s w => s25_p1 K w) else (fun _ _ => False)))) (X' := (fun i => (bif Nat.beq i 2 then (s25_p1_den K) else (fun _ _ => False)))) (R := s25_R K) (s := s) (w := w) (p := s25_p8 K B1 (s 0) (s 1) (s 2) (s 3) (s 9) (s 82) (s 83) (s 84) w) (q := s25_p8_den K (fun s w => B1 [s 0, s 1, s 2, s 3, s 9, s 82, s 83, s 84] w) s w) (fun s w h => s25_p7_ok K B1 s w @h) (fun i => (tr_bif (fun s w h => s25_p1_ok K s w @h) tr_id)) (by kernel_rfl) (by kernel_rfl) @h
def s25_p9_F (K : Value → World → Prop) (B1 : List Value → World → Prop) (l : List Value) (w : World) : Prop :=
  match l with
  | [t0, t1, t2, t3, t9, t82, t83, t84] => s25_p8 K B1 t0 t1 t2 t3 t9 t82 t83 t84 w
  | _ => False
theorem s25_p9_Fe {K : Value → World → Prop} {B1 : List Value → World → Prop} {t0 t1 t2 t3 t9 t82 t83 t84 : Value} {w : World} : s25_p9_F K B1 [t0, t1, t2, t3, t9, t82, t83, t84] w = s25_p8 K B1 t0 t1 t2 t3 t9 t82 t83 t84 w := by kernel_rfl
def s25_p9 (K : Value → World → Prop) (t0 t1 t2 t3 t9 t82 t83 t84 : Value) (w : World) : Prop :=
  LoopL (s25_p9_F K) [t0, t1, t2, t3, t9, t82, t83, t84] w
def s25_p9_den (K : Value → World → Prop) : (Nat → Value) → World → Prop := fun s w => LoopP (fun M1 s w => s25_p8_den K M1 s w) s w
theorem s25_p9_ok (K : Value → World → Prop) (s : Nat → Value) (w : World) (h : s25_p9 K (s 0) (s 1) (s 2) (s 3) (s 9) (s 82) (s 83) (s 84) w) : Tr (s25_p9_den K s w) :=
  tr_loop (G := fun N' s w => s25_p8_den K N' s w) (F := s25_p9_F K) (sel := fun s => [s 0, s 1, s 2, s 3, s 9, s 82, s 83, s 84]) (s := s) (w := w) (p := s25_p9 K (s 0) (s 1) (s 2) (s 3) (s 9) (s 82) (s 83) (s 84) w) (q := s25_p9_den K s w) (fun B s w h => s25_p8_ok K B s w @h) (by kernel_rfl) (by kernel_rfl) @h
def s25_p10 (K : Value → World → Prop) (t0 t1 t2 t3 t9 t10 t11 : Value) (w : World) : Prop :=
  cl Try.prog 35 #[t10, t2, (.bool false)] (fun t60 w =>
  boI .neq t60 t9 (fun t62 w =>
  gd t62 false (fun K w => K t11 w) (fun t64 w =>
  gd t62 false (fun K w => K t2 w) (fun t65 w =>
  gd t62 false (cl Try.prog 35 #[t64, t65, (.bool true)]) (fun t66 w =>
  gd t62 false (fun K w => K t9 w) (fun t67 w =>
  gd t62 false (boI .neq t66 t67) (fun t68 w =>
  pk t62 (.bool true) t68 (fun t69 w =>
  ifb t69
  (K (.bool false) w)
  (lnS t0 (fun t71 w =>
  cl Try.prog 34 #[t71, t1, t2] (fun t74 w =>
  un .not t74 (fun t75 w =>
  ifb t75
  (lnS t0 (fun t77 w =>
  cl Try.prog 51 #[t77, t1, t2] (fun t80 w =>
  un .not t80 (fun t81 w =>
  K t81 w) w) w) w)
  (bsq 4 [(.bool false)] 2 [(some (0, 1), (.bool false)), (some (1, 1), (.bool true))] (fun t82 w =>
  lnS t82 (fun t83 w =>
  s25_p9 K t0 t1 t2 t3 t9 t82 t83 (.int .i64 0) w) w) w)) w) w) w)) w) w) w) w) w) w) w) w
def s25_p10_den (K : Value → World → Prop) : (Nat → Value) → World → Prop := denL Try.prog [(cd (Try.f25.body.getD .skip) [1, 1, 1, 1, 1, 1, 1, 0, 0]), (cd (Try.f25.body.getD .skip) [1, 1, 1, 1, 1, 1, 1, 0, 1]), (cd (Try.f25.body.getD .skip) [1, 1, 1, 1, 1, 1, 1, 1, 0, 0]), (cd (Try.f25.body.getD .skip) [1, 1, 1, 1, 1, 1, 1, 1, 0, 1]), (cd (Try.f25.body.getD .skip) [1, 1, 1, 1, 1, 1, 1, 1, 1, 0, 0])] (s25_p9_den K) (fun i => (fun _ _ => False)) (s25_R K)
theorem s25_p10_ok (K : Value → World → Prop) (s : Nat → Value) (w : World) (h : s25_p10 K (s 0) (s 1) (s 2) (s 3) (s 9) (s 10) (s 11) w) : Tr (s25_p10_den K s w) :=
  tr_simple (P := Try.prog) (codes := [(cd (Try.f25.body.getD .skip) [1, 1, 1, 1, 1, 1, 1, 0, 0]), (cd (Try.f25.body.getD .skip) [1, 1, 1, 1, 1, 1, 1, 0, 1]), (cd (Try.f25.body.getD .skip) [1, 1, 1, 1, 1, 1, 1, 1, 0, 0]), (cd (Try.f25.body.getD .skip) [1, 1, 1, 1, 1, 1, 1, 1, 0, 1]), (cd (Try.f25.body.getD .skip) [1, 1, 1, 1, 1, 1, 1, 1, 1, 0, 0])]) (N := (fun s w => s25_p9 K (s 0) (s 1) (s 2) (s 3) (s 9) (s 82) (s 83) (s 84) w)) (N' := (s25_p9_den K)) (X := (fun i => (fun _ _ => False))) (X' := (fun i => (fun _ _ => False))) (R := s25_R K) (s := s) (w := w) (p := s25_p10 K (s 0) (s 1) (s 2) (s 3) (s 9) (s 10) (s 11) w) (q := s25_p10_den K s w) (fun s w h => s25_p9_ok K s w @h) (fun i => tr_id) (by kernel_rfl) (by kernel_rfl) @h
def s25_p11 (K : Value → World → Prop) (B1 : List Value → World → Prop) (t0 t1 t2 t3 t9 t10 t11 t41 t42 : Value) (w : World) : Prop :=
  boI .add t42 (.int .i64 1) (fun t57 w =>
  B1 [t0, t1, t2, t3, t9, t10, t11, t41, t57] w) w
def s25_p11_den (K : Value → World → Prop) (M1 : (Nat → Value) → World → Prop) : (Nat → Value) → World → Prop := denL Try.prog [(cd (Try.f25.body.getD .skip) [1, 1, 1, 1, 1, 1, 0, 1, 0, 0, 1, 1, 1])] M1 (fun i => (bif Nat.beq i 0 then (s25_p10_den K) else (fun _ _ => False))) (s25_R K)
theorem s25_p11_ok (K : Value → World → Prop) (B1 : List Value → World → Prop) (s : Nat → Value) (w : World) (h : s25_p11 K B1 (s 0) (s 1) (s 2) (s 3) (s 9) (s 10) (s 11) (s 41) (s 42) w) : Tr (s25_p11_den K (fun s w => B1 [s 0, s 1, s 2, s 3, s 9, s 10, s 11, s 41, s 42] w) s w) :=
  tr_simple (P := Try.prog) (codes := [(cd (Try.f25.body.getD .skip) [1, 1, 1, 1, 1, 1, 0, 1, 0, 0, 1, 1, 1])]) (N := (fun s w => B1 [s 0, s 1, s 2, s 3, s 9, s 10, s 11, s 41, s 42] w)) (N' := (fun s w => B1 [s 0, s 1, s 2, s 3, s 9, s 10, s 11, s 41, s 42] w)) (X := (fun i => (bif Nat.beq i 0 then (fun s w => s25_p10 K (s 0) (s 1) (s 2) (s 3) (s 9) (s 10) (s 11) w) else (fun _ _ => False)))) (X' := (fun i => (bif Nat.beq i 0 then (s25_p10_den K) else (fun _ _ => False)))) (R := s25_R K) (s := s) (w := w) (p := s25_p11 K B1 (s 0) (s 1) (s 2) (s 3) (s 9) (s 10) (s 11) (s 41) (s 42) w) (q := s25_p11_den K (fun s w => B1 [s 0, s 1, s 2, s 3, s 9, s 10, s 11, s 41, s 42] w) s w) tr_id (fun i => (tr_bif (fun s w h => s25_p10_ok K s w @h) tr_id)) (by kernel_rfl) (by kernel_rfl) @h
def s25_p12 (K : Value → World → Prop) (B1 : List Value → World → Prop) (t0 t1 t2 t3 t9 t10 t11 t41 t42 t56 : Value) (w : World) : Prop :=
  ifb t56
  (K (.bool false) w)
  (s25_p11 K B1 t0 t1 t2 t3 t9 t10 t11 t41 t42 w)
def s25_p12_den (K : Value → World → Prop) (M1 : (Nat → Value) → World → Prop) : (Nat → Value) → World → Prop := denL Try.prog [(cd (Try.f25.body.getD .skip) [1, 1, 1, 1, 1, 1, 0, 1, 0, 0, 1, 1, 0, 0, 1, 1])] (s25_p11_den K M1) (fun i => (bif Nat.beq i 1 then (s25_p11_den K M1) else (bif Nat.beq i 0 then (s25_p10_den K) else (fun _ _ => False)))) (s25_R K)
theorem s25_p12_ok (K : Value → World → Prop) (B1 : List Value → World → Prop) (s : Nat → Value) (w : World) (h : s25_p12 K B1 (s 0) (s 1) (s 2) (s 3) (s 9) (s 10) (s 11) (s 41) (s 42) (s 56) w) : Tr (s25_p12_den K (fun s w => B1 [s 0, s 1, s 2, s 3, s 9, s 10, s 11, s 41, s 42] w) s w) :=
  tr_simple (P := Try.prog) (codes := [(cd (Try.f25.body.getD .skip) [1, 1, 1, 1, 1, 1, 0, 1, 0, 0, 1, 1, 0, 0, 1, 1])]) (N := (fun s w => s25_p11 K B1 (s 0) (s 1) (s 2) (s 3) (s 9) (s 10) (s 11) (s 41) (s 42) w)) (N' := (s25_p11_den K (fun s w => B1 [s 0, s 1, s 2, s 3, s 9, s 10, s 11, s 41, s 42] w))) (X := (fun i => (bif Nat.beq i 1 then (fun s w => s25_p11 K B1 (s 0) (s 1) (s 2) (s 3) (s 9) (s 10) (s 11) (s 41) (s 42) w) else (bif Nat.beq i 0 then (fun s w => s25_p10 K (s 0) (s 1) (s 2) (s 3) (s 9) (s 10) (s 11) w) else (fun _ _ => False))))) (X' := (fun i => (bif Nat.beq i 1 then (s25_p11_den K (fun s w => B1 [s 0, s 1, s 2, s 3, s 9, s 10, s 11, s 41, s 42] w)) else (bif Nat.beq i 0 then (s25_p10_den K) else (fun _ _ => False))))) (R := s25_R K) (s := s) (w := w) (p := s25_p12 K B1 (s 0) (s 1) (s 2) (s 3) (s 9) (s 10) (s 11) (s 41) (s 42) (s 56) w) (q := s25_p12_den K (fun s w => B1 [s 0, s 1, s 2, s 3, s 9, s 10, s 11, s 41, s 42] w) s w) (fun s w h => s25_p11_ok K B1 s w @h) (fun i => (tr_bif (fun s w h => s25_p11_ok K B1 s w @h) (tr_bif (fun s w h => s25_p10_ok K s w @h) tr_id))) (by kernel_rfl) (by kernel_rfl) @h
def s25_p13_d (K : Value → World → Prop) (B1 : List Value → World → Prop) (t0 t1 t2 t3 t9 t10 t11 t12 t41 t42 : Value) (w0 w : World) : Prop :=
  ixs 1 t10 t12 (fun t47 _ =>
  ld1 t47 (fun t48 _ =>
  boI .sub t2 (.int .i64 1) (fun t51 _ =>
  boI .sub t51 t12 (fun t53 _ =>
  ixs 1 t11 t53 (fun t54 _ =>
  ld1 t54 (fun t55 _ =>
  boI .neq t48 t55 (fun t56 _ =>
  s25_p12 K B1 t0 t1 t2 t3 t9 t10 t11 t41 t42 t56 w) w0) w0) w0) w0) w0) w0) w0
def s25_p13 (K : Value → World → Prop) (B1 : List Value → World → Prop) (t0 t1 t2 t3 t9 t10 t11 t12 t41 t42 : Value) (w : World) : Prop := s25_p13_d K B1 t0 t1 t2 t3 t9 t10 t11 t12 t41 t42 (drw w) (drw w)
def s25_p13_den (K : Value → World → Prop) (M1 : (Nat → Value) → World → Prop) : (Nat → Value) → World → Prop := denL Try.prog [(cd (Try.f25.body.getD .skip) [1, 1, 1, 1, 1, 1, 0, 1, 0, 0, 1, 1, 0, 0, 1, 0])] (s25_p12_den K M1) (fun i => (bif Nat.beq i 1 then (s25_p11_den K M1) else (bif Nat.beq i 0 then (s25_p10_den K) else (fun _ _ => False)))) (s25_R K)
theorem s25_p13_ok (K : Value → World → Prop) (B1 : List Value → World → Prop) (s : Nat → Value) (w : World) (h : s25_p13 K B1 (s 0) (s 1) (s 2) (s 3) (s 9) (s 10) (s 11) (s 12) (s 41) (s 42) w) : Tr (s25_p13_den K (fun s w => B1 [s 0, s 1, s 2, s 3, s 9, s 10, s 11, s 41, s 42] w) s w) :=
  tr_draw (P := Try.prog) (ops := (ro (cd (Try.f25.body.getD .skip) [1, 1, 1, 1, 1, 1, 0, 1, 0, 0, 1, 1, 0, 0, 1, 0]))) (ms := [0, 0, 3, 7, 0, 0, 32, 0, 224, 496, 1008, 2047]) (cs := [0, 1, 2, 3, 4, 5, 6, 7, 8, 9, 10, 11]) (N := (fun s w => s25_p12 K B1 (s 0) (s 1) (s 2) (s 3) (s 9) (s 10) (s 11) (s 41) (s 42) (s 56) w)) (N' := (s25_p12_den K (fun s w => B1 [s 0, s 1, s 2, s 3, s 9, s 10, s 11, s 41, s 42] w))) (s := s) (w := w) (p := s25_p13 K B1 (s 0) (s 1) (s 2) (s 3) (s 9) (s 10) (s 11) (s 12) (s 41) (s 42) w) (q := s25_p13_den K (fun s w => B1 [s 0, s 1, s 2, s 3, s 9, s 10, s 11, s 41, s 42] w) s w) (by kernel_rfl) (by kernel_rfl) (fun s w h => s25_p12_ok K B1 s w @h) (by kernel_rfl) (by kernel_rfl) @h
def s25_p14 (K : Value → World → Prop) (B1 : List Value → World → Prop) (t0 t1 t2 t3 t9 t10 t11 t41 t42 : Value) (w : World) : Prop :=
  s25_p13 K B1 t0 t1 t2 t3 t9 t10 t11 t42 t41 t42 w
def s25_p14_den (K : Value → World → Prop) (M1 : (Nat → Value) → World → Prop) : (Nat → Value) → World → Prop := denL Try.prog [(cd (Try.f25.body.getD .skip) [1, 1, 1, 1, 1, 1, 0, 1, 0, 0, 1, 1, 0, 0, 0])] (s25_p13_den K M1) (fun i => (bif Nat.beq i 1 then (s25_p11_den K M1) else (bif Nat.beq i 0 then (s25_p10_den K) else (fun _ _ => False)))) (s25_R K)
theorem s25_p14_ok (K : Value → World → Prop) (B1 : List Value → World → Prop) (s : Nat → Value) (w : World) (h : s25_p14 K B1 (s 0) (s 1) (s 2) (s 3) (s 9) (s 10) (s 11) (s 41) (s 42) w) : Tr (s25_p14_den K (fun s w => B1 [s 0, s 1, s 2, s 3, s 9, s 10, s 11, s 41, s 42] w) s w) :=
  tr_simple (P := Try.prog) (codes := [(cd (Try.f25.body.getD .skip) [1, 1, 1, 1, 1, 1, 0, 1, 0, 0, 1, 1, 0, 0, 0])]) (N := (fun s w => s25_p13 K B1 (s 0) (s 1) (s 2) (s 3) (s 9) (s 10) (s 11) (s 12) (s 41) (s 42) w)) (N' := (s25_p13_den K (fun s w => B1 [s 0, s 1, s 2, s 3, s 9, s 10, s 11, s 41, s 42] w))) (X := (fun i => (bif Nat.beq i 1 then (fun s w => s25_p11 K B1 (s 0) (s 1) (s 2) (s 3) (s 9) (s 10) (s 11) (s 41) (s 42) w) else (bif Nat.beq i 0 then (fun s w => s25_p10 K (s 0) (s 1) (s 2) (s 3) (s 9) (s 10) (s 11) w) else (fun _ _ => False))))) (X' := (fun i => (bif Nat.beq i 1 then (s25_p11_den K (fun s w => B1 [s 0, s 1, s 2, s 3, s 9, s 10, s 11, s 41, s 42] w)) else (bif Nat.beq i 0 then (s25_p10_den K) else (fun _ _ => False))))) (R := s25_R K) (s := s) (w := w) (p := s25_p14 K B1 (s 0) (s 1) (s 2) (s 3) (s 9) (s 10) (s 11) (s 41) (s 42) w) (q := s25_p14_den K (fun s w => B1 [s 0, s 1, s 2, s 3, s 9, s 10, s 11, s 41, s 42] w) s w) (fun s w h => s25_p13_ok K B1 s w @h) (fun i => (tr_bif (fun s w h => s25_p11_ok K B1 s w @h) (tr_bif (fun s w h => s25_p10_ok K s w @h) tr_id))) (by kernel_rfl) (by kernel_rfl) @h
def s25_p15 (K : Value → World → Prop) (B1 : List Value → World → Prop) (t0 t1 t2 t3 t9 t10 t11 t41 t42 : Value) (w : World) : Prop :=
  boI .lss t42 t41 (fun t43 w =>
  ifb t43
  (s25_p14 K B1 t0 t1 t2 t3 t9 t10 t11 t41 t42 w)
  (s25_p10 K t0 t1 t2 t3 t9 t10 t11 w)) w
def s25_p15_den (K : Value → World → Prop) (M1 : (Nat → Value) → World → Prop) : (Nat → Value) → World → Prop := denL Try.prog [(cd (Try.f25.body.getD .skip) [1, 1, 1, 1, 1, 1, 0, 1, 0, 0, 0]), (cd (Try.f25.body.getD .skip) [1, 1, 1, 1, 1, 1, 0, 1, 0, 0, 1, 0])] (s25_p14_den K M1) (fun i => (bif Nat.beq i 0 then (s25_p10_den K) else (fun _ _ => False))) (s25_R K)
theorem s25_p15_ok (K : Value → World → Prop) (B1 : List Value → World → Prop) (s : Nat → Value) (w : World) (h : s25_p15 K B1 (s 0) (s 1) (s 2) (s 3) (s 9) (s 10) (s 11) (s 41) (s 42) w) : Tr (s25_p15_den K (fun s w => B1 [s 0, s 1, s 2, s 3, s 9, s 10, s 11, s 41, s 42] w) s w) :=
  tr_simple (P := Try.prog) (codes := [(cd (Try.f25.body.getD .skip) [1, 1, 1, 1, 1, 1, 0, 1, 0, 0, 0]), (cd (Try.f25.body.getD .skip) [1, 1, 1, 1, 1, 1, 0, 1, 0, 0, 1, 0])]) (N := (fun s w => s25_p14 K B1 (s 0) (s 1) (s 2) (s 3) (s 9) (s 10) (s 11) (s 41) (s 42) w)) (N' := (s25_p14_den K (fun s w => B1 [s 0, s 1, s 2, s 3, s 9, s 10, s 11, s 41, s 42] w))) (X := (fun i => (bif Nat.beq i 0 then (fun s w => s25_p10 K (s 0) (s 1) (s 2) (s 3) (s 9) (s 10) (s 11) w) else (fun _ _ => False)))) (X' := (fun i => (bif Nat.beq i 0 then (s25_p10_den K) else (fun _ _ => False)))) (R := s25_R K) (s := s) (w := w) (p := s25_p15 K B1 (s 0) (s 1) (s 2) (s 3) (s 9) (s 10) (s 11) (s 41) (s 42) w) (q := s25_p15_den K (fun s w => B1 [s 0, s 1, s 2, s 3, s 9, s 10, s 11, s 41, s 42] w) s w) (fun s w h => s25_p14_ok K B1 s w @h) (fun i => (tr_bif (fun s w h => s25_p10_ok K s w @h) tr_id)) (by kernel_rfl) (by kernel_rfl) @h
def s25_p16_F (K : Value → World → Prop) (B1 : List Value → World → Prop) (l : List Value) (w : World) : Prop :=
  match l with
  | [t0, t1, t2, t3, t9, t10, t11, t41, t42] => s25_p15 K B1 t0 t1 t2 t3 t9 t10 t11 t41 t42 w
  | _ => False
theorem s25_p16_Fe {K : Value → World → Prop} {B1 : List Value → World → Prop} {t0 t1 t2 t3 t9 t10 t11 t41 t42 : Value} {w : World} : s25_p16_F K B1 [t0, t1, t2, t3, t9, t10, t11, t41, t42] w = s25_p15 K B1 t0 t1 t2 t3 t9 t10 t11 t41 t42 w := by kernel_rfl
def s25_p16 (K : Value → World → Prop) (t0 t1 t2 t3 t9 t10 t11 t41 t42 : Value) (w : World) : Prop :=
  LoopL (s25_p16_F K) [t0, t1, t2, t3, t9, t10, t11, t41, t42] w
def s25_p16_den (K : Value → World → Prop) : (Nat → Value) → World → Prop := fun s w => LoopP (fun M1 s w => s25_p15_den K M1 s w) s w
theorem s25_p16_ok (K : Value → World → Prop) (s : Nat → Value) (w : World) (h : s25_p16 K (s 0) (s 1) (s 2) (s 3) (s 9) (s 10) (s 11) (s 41) (s 42) w) : Tr (s25_p16_den K s w) :=
  tr_loop (G := fun N' s w => s25_p15_den K N' s w) (F := s25_p16_F K) (sel := fun s => [s 0, s 1, s 2, s 3, s 9, s 10, s 11, s 41, s 42]) (s := s) (w := w) (p := s25_p16 K (s 0) (s 1) (s 2) (s 3) (s 9) (s 10) (s 11) (s 41) (s 42) w) (q := s25_p16_den K s w) (fun B s w h => s25_p15_ok K B s w @h) (by kernel_rfl) (by kernel_rfl) @h
def s25_p17 (K : Value → World → Prop) (t0 t1 t2 t3 t9 : Value) (w : World) : Prop :=
  cl Try.prog 37 #[(.slice none 0 0), t2, (.bool false), t3] (fun t26 w =>
  cl Try.prog 37 #[(.slice none 0 0), t2, (.bool true), t3] (fun t29 w =>
  lnS t26 (fun t31 w =>
  boI .neq t31 t2 (fun t33 w =>
  gd t33 false (fun K w => K t29 w) (fun t35 w =>
  gd t33 false (lnS t35) (fun t36 w =>
  gd t33 false (fun K w => K t2 w) (fun t37 w =>
  gd t33 false (boI .neq t36 t37) (fun t38 w =>
  pk t33 (.bool true) t38 (fun t39 w =>
  ifb t39
  (K (.bool false) w)
  (lnS t26 (fun t41 w =>
  s25_p16 K t0 t1 t2 t3 t9 t26 t29 t41 (.int .i64 0) w) w)) w) w) w) w) w) w) w) w) w
def s25_p17_den (K : Value → World → Prop) : (Nat → Value) → World → Prop := denL Try.prog [(cd (Try.f25.body.getD .skip) [1, 1, 1, 0]), (cd (Try.f25.body.getD .skip) [1, 1, 1, 1, 0]), (cd (Try.f25.body.getD .skip) [1, 1, 1, 1, 1, 0, 0]), (cd (Try.f25.body.getD .skip) [1, 1, 1, 1, 1, 0, 1]), (cd (Try.f25.body.getD .skip) [1, 1, 1, 1, 1, 1, 0, 0])] (s25_p16_den K) (fun i => (fun _ _ => False)) (s25_R K)
theorem s25_p17_ok (K : Value → World → Prop) (s : Nat → Value) (w : World) (h : s25_p17 K (s 0) (s 1) (s 2) (s 3) (s 9) w) : Tr (s25_p17_den K s w) :=
  tr_simple (P := Try.prog) (codes := [(cd (Try.f25.body.getD .skip) [1, 1, 1, 0]), (cd (Try.f25.body.getD .skip) [1, 1, 1, 1, 0]), (cd (Try.f25.body.getD .skip) [1, 1, 1, 1, 1, 0, 0]), (cd (Try.f25.body.getD .skip) [1, 1, 1, 1, 1, 0, 1]), (cd (Try.f25.body.getD .skip) [1, 1, 1, 1, 1, 1, 0, 0])]) (N := (fun s w => s25_p16 K (s 0) (s 1) (s 2) (s 3) (s 9) (s 10) (s 11) (s 41) (s 42) w)) (N' := (s25_p16_den K)) (X := (fun i => (fun _ _ => False))) (X' := (fun i => (fun _ _ => False))) (R := s25_R K) (s := s) (w := w) (p := s25_p17 K (s 0) (s 1) (s 2) (s 3) (s 9) w) (q := s25_p17_den K s w) (fun s w h => s25_p16_ok K s w @h) (fun i => tr_id) (by kernel_rfl) (by kernel_rfl) @h
def s25_p18 (K : Value → World → Prop) (t0 t1 t2 t3 : Value) (w : World) : Prop :=
  boI .lss t2 (.int .i64 8) (fun t18 w =>
  ifb t18
  (boI .mul (.int .i64 8) t2 (fun t21 w =>
  boI .shl (.int .u64 1) t21 (fun t22 w =>
  boI .rem t3 t22 (fun t23 w =>
  s25_p17 K t0 t1 t2 t3 t23 w) w) w) w)
  (s25_p17 K t0 t1 t2 t3 t3 w)) w
def s25_p18_den (K : Value → World → Prop) : (Nat → Value) → World → Prop := denL Try.prog [(cd (Try.f25.body.getD .skip) [0]), (cd (Try.f25.body.getD .skip) [1, 0]), (cd (Try.f25.body.getD .skip) [1, 1, 0, 0]), (cd (Try.f25.body.getD .skip) [1, 1, 0, 1])] (s25_p17_den K) (fun i => (fun _ _ => False)) (s25_R K)
theorem s25_p18_ok (K : Value → World → Prop) (s : Nat → Value) (w : World) (h : s25_p18 K (s 0) (s 1) (s 2) (s 3) w) : Tr (s25_p18_den K s w) :=
  tr_simple (P := Try.prog) (codes := [(cd (Try.f25.body.getD .skip) [0]), (cd (Try.f25.body.getD .skip) [1, 0]), (cd (Try.f25.body.getD .skip) [1, 1, 0, 0]), (cd (Try.f25.body.getD .skip) [1, 1, 0, 1])]) (N := (fun s w => s25_p17 K (s 0) (s 1) (s 2) (s 3) (s 9) w)) (N' := (s25_p17_den K)) (X := (fun i => (fun _ _ => False))) (X' := (fun i => (fun _ _ => False))) (R := s25_R K) (s := s) (w := w) (p := s25_p18 K (s 0) (s 1) (s 2) (s 3) w) (q := s25_p18_den K s w) (fun s w h => s25_p17_ok K s w @h) (fun i => tr_id) (by kernel_rfl) (by kernel_rfl) @h
/-- the call, from the text -/
theorem c25 (t0 t1 t2 t3 : Value) {K : Value → World → Prop} {w : World} (h : s25_p18 K t0 t1 t2 t3 w) : cl Try.prog 25 #[t0, t1, t2, t3] K w :=
  calls_of_tr (c := (Try.f25.body.getD .skip)) (fn := Try.f25) (q := s25_p18_den K (st0 #[t0, t1, t2, t3]) w) Try.func25 (by kernel_rfl) (by kernel_rfl) (Nat.le_of_ble_eq_true (by kernel_rfl)) (by kernel_rfl) (by kernel_rfl) (s25_p18_ok K (st0 #[t0, t1, t2, t3]) w @h)

/-! ### function 26 : e2e.octetslaw.wordsHold -/
def s26_R (K : Value → World → Prop) (s : Nat → Value) (w : World) : Prop := retv Try.prog s Try.f26.results.toList (fun vs => K (pack vs) w) w
def s26_p1 (K : Value → World → Prop) (w : World) : Prop :=
  K (.bool true) w
def s26_p1_den (K : Value → World → Prop) : (Nat → Value) → World → Prop := denL Try.prog [(cd (Try.f26.body.getD .skip) [1, 1, 1, 1, 1, 1, 1, 1, 0]), (cd (Try.f26.body.getD .skip) [1, 1, 1, 1, 1, 1, 1, 1, 1])] (fun _ _ => False) (fun i => (fun _ _ => False)) (s26_R K)
theorem s26_p1_ok (K : Value → World → Prop) (s : Nat → Value) (w : World) (h : s26_p1 K w) : Tr (s26_p1_den K s w) :=
  tr_simple (P := Try.prog) (codes := [(cd (Try.f26.body.getD .skip) [1, 1, 1, 1, 1, 1, 1, 1, 0]), (cd (Try.f26.body.getD .skip) [1, 1, 1, 1, 1, 1, 1, 1, 1])]) (N := (fun _ _ => False)) (N' := (fun _ _ => False)) (X := (fun i => (fun _ _ => False))) (X' := (fun i => (fun _ _ => False))) (R := s26_R K) (s := s) (w := w) (p := s26_p1 K w) (q := s26_p1_den K s w) tr_id (fun i => tr_id) (by kernel_rfl) (by kernel_rfl) @h
def s26_p2 (K : Value → World → Prop) (B1 : List Value → World → Prop) (t0 t61 t62 t63 : Value) (w : World) : Prop :=
  boI .lss t63 t62 (fun t64 w =>
  ifb t64
  (ixs 1 t61 t63 (fun t66 w =>
  ld1 t66 (fun t67 w =>
  boI .mul (.int .i64 8) t63 (fun t71 w =>
  sls 1 t0 (some t71) none (fun t72 w =>
  cl Try.prog 72 #[t72] (fun t73 w =>
  boI .neq t67 t73 (fun t74 w =>
  ifb t74
  (K (.bool false) w)
  (boI .add t63 (.int .i64 1) (fun t75 w =>
  B1 [t0, t61, t62, t75] w) w)) w) w) w) w) w) w)
  (s26_p1 K w)) w
def s26_p2_den (K : Value → World → Prop) (M1 : (Nat → Value) → World → Prop) : (Nat → Value) → World → Prop := denL Try.prog [(cd (Try.f26.body.getD .skip) [1, 1, 1, 1, 1, 1, 1, 0, 1, 0, 0, 0]), (cd (Try.f26.body.getD .skip) [1, 1, 1, 1, 1, 1, 1, 0, 1, 0, 0, 1, 0]), (cd (Try.f26.body.getD .skip) [1, 1, 1, 1, 1, 1, 1, 0, 1, 0, 0, 1, 1, 0]), (cd (Try.f26.body.getD .skip) [1, 1, 1, 1, 1, 1, 1, 0, 1, 0, 0, 1, 1, 1])] M1 (fun i => (bif Nat.beq i 4 then (s26_p1_den K) else (fun _ _ => False))) (s26_R K)
theorem s26_p2_ok (K : Value → World → Prop) (B1 : List Value → World → Prop) (s : Nat → Value) (w : World) (h : s26_p2 K B1 (s 0) (s 61) (s 62) (s 63) w) : Tr (s26_p2_den K (fun s w => B1 [s 0, s 61, s 62, s 63] w) s w) :=
  tr_simple (P := Try.prog) (codes := [(cd (Try.f26.body.getD .skip) [1, 1, 1, 1, 1, 1, 1, 0, 1, 0, 0, 0]), (cd (Try.f26.body.getD .skip) [1, 1, 1, 1, 1, 1, 1, 0, 1, 0, 0, 1, 0]), (cd (Try.f26.body.getD .skip) [1, 1, 1, 1, 1, 1, 1, 0, 1, 0, 0, 1, 1, 0]), (cd (Try.f26.body.getD .skip) [1, 1, 1, 1, 1, 1, 1, 0, 1, 0, 0, 1, 1, 1])]) (N := (fun s w => B1 [s 0, s 61, s 62, s 63] w)) (N' := (fun s w => B1 [s 0, s 61, s 62, s 63] w)) (X := (fun i => (bif Nat.beq i 4 then (fun s w => s26_p1 K w) else (fun _ _ => False)))) (X' := (fun i => (bif Nat.beq i 4 then (s26_p1_den K) else (fun _ _ => False)))) (R := s26_R K) (s := s) (w := w) (p := s26_p2 K B1 (s 0) (s 61) (s 62) (s 63) w) (q := s26_p2_den K (fun s w => B1 [s 0, s 61, s 62, s 63] w) s w) tr_id (fun i => (tr_bif (fun s w h => s26_p1_ok K s w @h) tr_id)) (by kernel_rfl) (by kernel_rfl) @h
def s26_p3_F (K : Value → World → Prop) (B1 : List Value → World → Prop) (l : List Value) (w : World) : Prop :=
  match l with
  | [t0, t61, t62, t63] => s26_p2 K B1 t0 t61 t62 t63 w
  | _ => False
theorem s26_p3_Fe {K : Value → World → Prop} {B1 : List Value → World → Prop} {t0 t61 t62 t63 : Value} {w : World} : s26_p3_F K B1 [t0, t61, t62, t63] w = s26_p2 K B1 t0 t61 t62 t63 w := by kernel_rfl
def s26_p3 (K : Value → World → Prop) (t0 t61 t62 t63 : Value) (w : World) : Prop :=
  LoopL (s26_p3_F K) [t0, t61, t62, t63] w
def s26_p3_den (K : Value → World → Prop) : (Nat → Value) → World → Prop := fun s w => LoopP (fun M1 s w => s26_p2_den K M1 s w) s w
theorem s26_p3_ok (K : Value → World → Prop) (s : Nat → Value) (w : World) (h : s26_p3 K (s 0) (s 61) (s 62) (s 63) w) : Tr (s26_p3_den K s w) :=
  tr_loop (G := fun N' s w => s26_p2_den K N' s w) (F := s26_p3_F K) (sel := fun s => [s 0, s 61, s 62, s 63]) (s := s) (w := w) (p := s26_p3 K (s 0) (s 61) (s 62) (s 63) w) (q := s26_p3_den K s w) (fun B s w h => s26_p2_ok K B s w @h) (by kernel_rfl) (by kernel_rfl) @h
def s26_p4 (K : Value → World → Prop) (t0 t4 : Value) (w : World) : Prop :=
  cl Try.prog 71 #[t4, t0] (fun t59 w =>
  un .not t59 (fun t60 w =>
  ifb t60
  (K (.bool false) w)
  (lnS t4 (fun t62 w =>
  s26_p3 K t0 t4 t62 (.int .i64 0) w) w)) w) w
def s26_p4_den (K : Value → World → Prop) : (Nat → Value) → World → Prop := denL Try.prog [(cd (Try.f26.body.getD .skip) [1, 1, 1, 1, 1, 1, 0, 0]), (cd (Try.f26.body.getD .skip) [1, 1, 1, 1, 1, 1, 0, 1]), (cd (Try.f26.body.getD .skip) [1, 1, 1, 1, 1, 1, 1, 0, 0])] (s26_p3_den K) (fun i => (fun _ _ => False)) (s26_R K)
theorem s26_p4_ok (K : Value → World → Prop) (s : Nat → Value) (w : World) (h : s26_p4 K (s 0) (s 4) w) : Tr (s26_p4_den K s w) :=
  tr_simple (P := Try.prog) (codes := [(cd (Try.f26.body.getD .skip) [1, 1, 1, 1, 1, 1, 0, 0]), (cd (Try.f26.body.getD .skip) [1, 1, 1, 1, 1, 1, 0, 1]), (cd (Try.f26.body.getD .skip) [1, 1, 1, 1, 1, 1, 1, 0, 0])]) (N := (fun s w => s26_p3 K (s 0) (s 61) (s 62) (s 63) w)) (N' := (s26_p3_den K)) (X := (fun i => (fun _ _ => False))) (X' := (fun i => (fun _ _ => False))) (R := s26_R K) (s := s) (w := w) (p := s26_p4 K (s 0) (s 4) w) (q := s26_p4_den K s w) (fun s w h => s26_p3_ok K s w @h) (fun i => tr_id) (by kernel_rfl) (by kernel_rfl) @h
def s26_p5 (K : Value → World → Prop) (B1 : List Value → World → Prop) (t0 t4 t42 t43 t44 : Value) (w : World) : Prop :=
  boI .lss t44 t43 (fun t45 w =>
  ifb t45
  (ixs 1 t42 t44 (fun t47 w =>
  ld1 t47 (fun t48 w =>
  boI .mul (.int .i64 4) t44 (fun t52 w =>
  sls 1 t0 (some t52) none (fun t53 w =>
  cl Try.prog 70 #[t53] (fun t54 w =>
  boI .neq t48 t54 (fun t55 w =>
  ifb t55
  (K (.bool false) w)
  (boI .add t44 (.int .i64 1) (fun t56 w =>
  B1 [t0, t4, t42, t43, t56] w) w)) w) w) w) w) w) w)
  (s26_p4 K t0 t4 w)) w
def s26_p5_den (K : Value → World → Prop) (M1 : (Nat → Value) → World → Prop) : (Nat → Value) → World → Prop := denL Try.prog [(cd (Try.f26.body.getD .skip) [1, 1, 1, 1, 1, 0, 1, 0, 0, 0]), (cd (Try.f26.body.getD .skip) [1, 1, 1, 1, 1, 0, 1, 0, 0, 1, 0]), (cd (Try.f26.body.getD .skip) [1, 1, 1, 1, 1, 0, 1, 0, 0, 1, 1, 0]), (cd (Try.f26.body.getD .skip) [1, 1, 1, 1, 1, 0, 1, 0, 0, 1, 1, 1])] M1 (fun i => (bif Nat.beq i 2 then (s26_p4_den K) else (fun _ _ => False))) (s26_R K)
theorem s26_p5_ok (K : Value → World → Prop) (B1 : List Value → World → Prop) (s : Nat → Value) (w : World) (h : s26_p5 K B1 (s 0) (s 4) (s 42) (s 43) (s 44) w) : Tr (s26_p5_den K (fun s w => B1 [s 0, s 4, s 42, s 43, s 44] w) s w) :=
  tr_simple (P := Try.prog) (codes := [(cd (Try.f26.body.getD .skip) [1, 1, 1, 1, 1, 0, 1, 0, 0, 0]), (cd (Try.f26.body.getD .skip) [1, 1, 1, 1, 1, 0, 1, 0, 0, 1, 0]), (cd (Try.f26.body.getD .skip) [1, 1, 1, 1, 1, 0, 1, 0, 0, 1, 1, 0]), (cd (Try.f26.body.getD .skip) [1, 1, 1, 1, 1, 0, 1, 0, 0, 1, 1, 1])]) (N := (fun s w => B1 [s 0, s 4, s 42, s 43, s 44] w)) (N' := (fun s w => B1 [s 0, s 4, s 42, s 43, s 44] w)) (X := (fun i => (bif Nat.beq i 2 then (fun s w => s26_p4 K (s 0) (s 4) w) else (fun _ _ => False)))) (X' := (fun i => (bif Nat.beq i 2 then (s26_p4_den K) else (fun _ _ => False)))) (R := s26_R K) (s := s) (w := w) (p := s26_p5 K B1 (s 0) (s 4) (s 42) (s 43) (s 44) w) (q := s26_p5_den K (fun s w => B1 [s 0, s 4, s 42, s 43, s 44] w) s w) tr_id (fun i => (tr_bif (fun s w h => s26_p4_ok K s w @h) tr_id)) (by kernel_rfl) (by kernel_rfl) @h
def s26_p6_F (K : Value → World → Prop) (B1 : List Value → World → Prop) (l : List Value) (w : World) : Prop :=
  match l with
  | [t0, t4, t42, t43, t44] => s26_p5 K B1 t0 t4 t42 t43 t44 w
  | _ => False
theorem s26_p6_Fe {K : Value → World → Prop} {B1 : List Value → World → Prop} {t0 t4 t42 t43 t44 : Value} {w : World} : s26_p6_F K B1 [t0, t4, t42, t43, t44] w = s26_p5 K B1 t0 t4 t42 t43 t44 w := by kernel_rfl
def s26_p6 (K : Value → World → Prop) (t0 t4 t42 t43 t44 : Value) (w : World) : Prop :=
  LoopL (s26_p6_F K) [t0, t4, t42, t43, t44] w
def s26_p6_den (K : Value → World → Prop) : (Nat → Value) → World → Prop := fun s w => LoopP (fun M1 s w => s26_p5_den K M1 s w) s w
theorem s26_p6_ok (K : Value → World → Prop) (s : Nat → Value) (w : World) (h : s26_p6 K (s 0) (s 4) (s 42) (s 43) (s 44) w) : Tr (s26_p6_den K s w) :=
  tr_loop (G := fun N' s w => s26_p5_den K N' s w) (F := s26_p6_F K) (sel := fun s => [s 0, s 4, s 42, s 43, s 44]) (s := s) (w := w) (p := s26_p6 K (s 0) (s 4) (s 42) (s 43) (s 44) w) (q := s26_p6_den K s w) (fun B s w h => s26_p5_ok K B s w @h) (by kernel_rfl) (by kernel_rfl) @h
def s26_p7 (K : Value → World → Prop) (t0 t3 t4 : Value) (w : World) : Prop :=
  cl Try.prog 69 #[t3, t0] (fun t40 w =>
  un .not t40 (fun t41 w =>
  ifb t41
  (K (.bool false) w)
  (lnS t3 (fun t43 w =>
  s26_p6 K t0 t4 t3 t43 (.int .i64 0) w) w)) w) w
def s26_p7_den (K : Value → World → Prop) : (Nat → Value) → World → Prop := denL Try.prog [(cd (Try.f26.body.getD .skip) [1, 1, 1, 1, 0, 0]), (cd (Try.f26.body.getD .skip) [1, 1, 1, 1, 0, 1]), (cd (Try.f26.body.getD .skip) [1, 1, 1, 1, 1, 0, 0])] (s26_p6_den K) (fun i => (fun _ _ => False)) (s26_R K)
theorem s26_p7_ok (K : Value → World → Prop) (s : Nat → Value) (w : World) (h : s26_p7 K (s 0) (s 3) (s 4) w) : Tr (s26_p7_den K s w) :=
  tr_simple (P := Try.prog) (codes := [(cd (Try.f26.body.getD .skip) [1, 1, 1, 1, 0, 0]), (cd (Try.f26.body.getD .skip) [1, 1, 1, 1, 0, 1]), (cd (Try.f26.body.getD .skip) [1, 1, 1, 1, 1, 0, 0])]) (N := (fun s w => s26_p6 K (s 0) (s 4) (s 42) (s 43) (s 44) w)) (N' := (s26_p6_den K)) (X := (fun i => (fun _ _ => False))) (X' := (fun i => (fun _ _ => False))) (R := s26_R K) (s := s) (w := w) (p := s26_p7 K (s 0) (s 3) (s 4) w) (q := s26_p7_den K s w) (fun s w h => s26_p6_ok K s w @h) (fun i => tr_id) (by kernel_rfl) (by kernel_rfl) @h
def s26_p8 (K : Value → World → Prop) (B1 : List Value → World → Prop) (t0 t3 t4 t23 t24 t25 : Value) (w : World) : Prop :=
  boI .lss t25 t24 (fun t26 w =>
  ifb t26
  (ixs 1 t23 t25 (fun t28 w =>
  ld1 t28 (fun t29 w =>
  boI .mul (.int .i64 4) t25 (fun t33 w =>
  sls 1 t0 (some t33) none (fun t34 w =>
  cl Try.prog 68 #[t34] (fun t35 w =>
  boI .neq t29 t35 (fun t36 w =>
  ifb t36
  (K (.bool false) w)
  (boI .add t25 (.int .i64 1) (fun t37 w =>
  B1 [t0, t3, t4, t23, t24, t37] w) w)) w) w) w) w) w) w)
  (s26_p7 K t0 t3 t4 w)) w
def s26_p8_den (K : Value → World → Prop) (M1 : (Nat → Value) → World → Prop) : (Nat → Value) → World → Prop := denL Try.prog [(cd (Try.f26.body.getD .skip) [1, 1, 1, 0, 1, 0, 0, 0]), (cd (Try.f26.body.getD .skip) [1, 1, 1, 0, 1, 0, 0, 1, 0]), (cd (Try.f26.body.getD .skip) [1, 1, 1, 0, 1, 0, 0, 1, 1, 0]), (cd (Try.f26.body.getD .skip) [1, 1, 1, 0, 1, 0, 0, 1, 1, 1])] M1 (fun i => (bif Nat.beq i 0 then (s26_p7_den K) else (fun _ _ => False))) (s26_R K)
theorem s26_p8_ok (K : Value → World → Prop) (B1 : List Value → World → Prop) (s : Nat → Value) (w : World) (h : s26_p8 K B1 (s 0) (s 3) (s 4) (s 23) (s 24) (s 25) w) : Tr (s26_p8_den K (fun s w => B1 [s 0, s 3, s 4, s 23, s 24, s 25] w) s w) :=
  tr_simple (P := Try.prog) (codes := [(cd (Try.f26.body.getD .skip) [1, 1, 1, 0, 1, 0, 0, 0]), (cd (Try.f26.body.getD .skip) [1, 1, 1, 0, 1, 0, 0, 1, 0]), (cd (Try.f26.body.getD .skip) [1, 1, 1, 0, 1, 0, 0, 1, 1, 0]), (cd (Try.f26.body.getD .skip) [1, 1, 1, 0, 1, 0, 0, 1, 1, 1])]) (N := (fun s w => B1 [s 0, s 3, s 4, s 23, s 24, s 25] w)) (N' := (fun s w => B1 [s 0, s 3, s 4, s 23, s 24, s 25] w)) (X := (fun i => (bif Nat.beq i 0 then (fun s w => s26_p7 K (s 0) (s 3) (s 4) w) else (fun _ _ => False)))) (X' := (fun i => (bif Nat.beq i 0 then (s26_p7_den K) else (fun _ _ => False)))) (R := s26_R K) (s := s) (w := w) (p := s26_p8 K B1 (s 0) (s 3) (s 4) (s 23) (s 24) (s 25) w) (q := s26_p8_den K (fun s w => B1 [s 0, s 3, s 4, s 23, s 24, s 25] w) s w) tr_id (fun i => (tr_bif (fun s w h => s26_p7_ok K s w @h) tr_id)) (by kernel_rfl) (by kernel_rfl) @h
def s26_p9_F (K : Value → World → Prop) (B1 : List Value → World → Prop) (l : List Value) (w : World) : Prop :=
  match l with
  | [t0, t3, t4, t23, t24, t25] => s26_p8 K B1 t0 t3 t4 t23 t24 t25 w
  | _ => False
theorem s26_p9_Fe {K : Value → World → Prop} {B1 : List Value → World → Prop} {t0 t3 t4 t23 t24 t25 : Value} {w : World} : s26_p9_F K B1 [t0, t3, t4, t23, t24, t25] w = s26_p8 K B1 t0 t3 t4 t23 t24 t25 w := by kernel_rfl
def s26_p9 (K : Value → World → Prop) (t0 t3 t4 t23 t24 t25 : Value) (w : World) : Prop :=
  LoopL (s26_p9_F K) [t0, t3, t4, t23, t24, t25] w
def s26_p9_den (K : Value → World → Prop) : (Nat → Value) → World → Prop := fun s w => LoopP (fun M1 s w => s26_p8_den K M1 s w) s w
theorem s26_p9_ok (K : Value → World → Prop) (s : Nat → Value) (w : World) (h : s26_p9 K (s 0) (s 3) (s 4) (s 23) (s 24) (s 25) w) : Tr (s26_p9_den K s w) :=
  tr_loop (G := fun N' s w => s26_p8_den K N' s w) (F := s26_p9_F K) (sel := fun s => [s 0, s 3, s 4, s 23, s 24, s 25]) (s := s) (w := w) (p := s26_p9 K (s 0) (s 3) (s 4) (s 23) (s 24) (s 25) w) (q := s26_p9_den K s w) (fun B s w h => s26_p8_ok K B s w @h) (by kernel_rfl) (by kernel_rfl) @h
def s26_p10 (K : Value → World → Prop) (t0 t3 t4 : Value) (w : World) : Prop :=
  cl Try.prog 67 #[t3, t0] (fun t21 w =>
  un .not t21 (fun t22 w =>
  ifb t22
  (K (.bool false) w)
  (lnS t3 (fun t24 w =>
  s26_p9 K t0 t3 t4 t3 t24 (.int .i64 0) w) w)) w) w
def s26_p10_den (K : Value → World → Prop) : (Nat → Value) → World → Prop := denL Try.prog [(cd (Try.f26.body.getD .skip) [1, 1, 0, 0]), (cd (Try.f26.body.getD .skip) [1, 1, 0, 1]), (cd (Try.f26.body.getD .skip) [1, 1, 1, 0, 0])] (s26_p9_den K) (fun i => (fun _ _ => False)) (s26_R K)
theorem s26_p10_ok (K : Value → World → Prop) (s : Nat → Value) (w : World) (h : s26_p10 K (s 0) (s 3) (s 4) w) : Tr (s26_p10_den K s w) :=
  tr_simple (P := Try.prog) (codes := [(cd (Try.f26.body.getD .skip) [1, 1, 0, 0]), (cd (Try.f26.body.getD .skip) [1, 1, 0, 1]), (cd (Try.f26.body.getD .skip) [1, 1, 1, 0, 0])]) (N := (fun s w => s26_p9 K (s 0) (s 3) (s 4) (s 23) (s 24) (s 25) w)) (N' := (s26_p9_den K)) (X := (fun i => (fun _ _ => False))) (X' := (fun i => (fun _ _ => False))) (R := s26_R K) (s := s) (w := w) (p := s26_p10 K (s 0) (s 3) (s 4) w) (q := s26_p10_den K s w) (fun s w h => s26_p9_ok K s w @h) (fun i => tr_id) (by kernel_rfl) (by kernel_rfl) @h
def s26_p11_d (K : Value → World → Prop) (t0 : Value) (w0 w : World) : Prop :=
  lnS t0 (fun t12 _ =>
  boI .quo t12 (.int .i64 4) (fun t13 _ =>
  lnS t0 (fun t16 _ =>
  boI .quo t16 (.int .i64 8) (fun t17 _ =>
  (mks 93 [(.int .u32 0)] 4 t13 t13 (fun t14 w =>
  Below w0.heap.size w0 w ∧
  (mks 32 [(.int .u64 0)] 8 t17 t17 (fun t18 w =>
  Below w0.heap.size w0 w ∧
  Below w0.heap.size w0 w ∧
  s26_p10 K t0 t14 t18 w) w) ∧
  (Below w0.heap.size w0 w ∧
  mks 32 [(.int .u64 0)] 8 t17 t17 (fun t18_2 w =>
  Below w0.heap.size w0 w ∧
  s26_p10 K t0 t14 t18_2 w) w)) w) ∧
  (mks 32 [(.int .u64 0)] 8 t17 t17 (fun t18_3 w =>
  Below w0.heap.size w0 w ∧
  mks 93 [(.int .u32 0)] 4 t13 t13 (fun t14_2 w =>
  Below w0.heap.size w0 w ∧
  Below w0.heap.size w0 w ∧
  s26_p10 K t0 t14_2 t18_3 w) w) w)) w0) w0) w0) w0
def s26_p11 (K : Value → World → Prop) (t0 : Value) (w : World) : Prop := s26_p11_d K t0 (drw w) (drw w)
def s26_p11_den (K : Value → World → Prop) : (Nat → Value) → World → Prop := denL Try.prog [(cd (Try.f26.body.getD .skip) [1, 0])] (s26_p10_den K) (fun i => (fun _ _ => False)) (s26_R K)
theorem s26_p11_ok (K : Value → World → Prop) (s : Nat → Value) (w : World) (h : s26_p11 K (s 0) w) : Tr (s26_p11_den K s w) :=
  tr_draw (P := Try.prog) (ops := (ro (cd (Try.f26.body.getD .skip) [1, 0]))) (ms := [0, 1, 3, 7, 0, 16, 48, 112, 15, 511]) (cs := [0, 1, 2, 4, 5, 6]) (N := (fun s w => s26_p10 K (s 0) (s 3) (s 4) w)) (N' := (s26_p10_den K)) (s := s) (w := w) (p := s26_p11 K (s 0) w) (q := s26_p11_den K s w) (by kernel_rfl) (by kernel_rfl) (fun s w h => s26_p10_ok K s w @h) (by kernel_rfl) (by kernel_rfl) @h
def s26_p12 (K : Value → World → Prop) (t0 : Value) (w : World) : Prop :=
  s26_p11 K t0 w
def s26_p12_den (K : Value → World → Prop) : (Nat → Value) → World → Prop := denL Try.prog [(cd (Try.f26.body.getD .skip) [0])] (s26_p11_den K) (fun i => (fun _ _ => False)) (s26_R K)
theorem s26_p12_ok (K : Value → World → Prop) (s : Nat → Value) (w : World) (h : s26_p12 K (s 0) w) : Tr (s26_p12_den K s w) :=
  tr_simple (P := Try.prog) (codes := [(cd (Try.f26.body.getD .skip) [0])]) (N := (fun s w => s26_p11 K (s 0) w)) (N' := (s26_p11_den K)) (X := (fun i => (fun _ _ => False))) (X' := (fun i => (fun _ _ => False))) (R := s26_R K) (s := s) (w := w) (p := s26_p12 K (s 0) w) (q := s26_p12_den K s w) (fun s w h => s26_p11_ok K s w @h) (fun i => tr_id) (by kernel_rfl) (by kernel_rfl) @h
/-- the call, from the text -/
theorem c26 (t0 : Value) {K : Value → World → Prop} {w : World} (h : s26_p12 K t0 w) : cl Try.prog 26 #[t0] K w :=
  calls_of_tr (c := (Try.f26.body.getD .skip)) (fn := Try.f26) (q := s26_p12_den K (st0 #[t0]) w) Try.func26 (by kernel_rfl) (by kernel_rfl) (Nat.le_of_ble_eq_true (by kernel_rfl)) (by kernel_rfl) (by kernel_rfl) (s26_p12_ok K (st0 #[t0]) w @h)

/-! ### function 27 : e2e.octetslaw.refusalHolds -/
def s27_R (K : Value → World → Prop) (s : Nat → Value) (w : World) : Prop := retv Try.prog s Try.f27.results.toList (fun vs => K (pack vs) w) w
def s27_p1 (K : Value → World → Prop) (w : World) : Prop :=
  K (.bool true) w
def s27_p1_den (K : Value → World → Prop) : (Nat → Value) → World → Prop := denL Try.prog [(cd (Try.f27.body.getD .skip) [1, 1, 1, 1, 1, 1, 1, 1, 1, 1, 1, 1, 1, 1, 0]), (cd (Try.f27.body.getD .skip) [1, 1, 1, 1, 1, 1, 1, 1, 1, 1, 1, 1, 1, 1, 1])] (fun _ _ => False) (fun i => (fun _ _ => False)) (s27_R K)
theorem s27_p1_ok (K : Value → World → Prop) (s : Nat → Value) (w : World) (h : s27_p1 K w) : Tr (s27_p1_den K s w) :=
  tr_simple (P := Try.prog) (codes := [(cd (Try.f27.body.getD .skip) [1, 1, 1, 1, 1, 1, 1, 1, 1, 1, 1, 1, 1, 1, 0]), (cd (Try.f27.body.getD .skip) [1, 1, 1, 1, 1, 1, 1, 1, 1, 1, 1, 1, 1, 1, 1])]) (N := (fun _ _ => False)) (N' := (fun _ _ => False)) (X := (fun i => (fun _ _ => False))) (X' := (fun i => (fun _ _ => False))) (R := s27_R K) (s := s) (w := w) (p := s27_p1 K w) (q := s27_p1_den K s w) tr_id (fun i => tr_id) (by kernel_rfl) (by kernel_rfl) @h
def s27_p2 (K : Value → World → Prop) (t1 : Value) (w : World) : Prop :=
  bsq 32 [(.int .u64 0)] 2 [(some (0, 1), (.int .u64 4)), (some (1, 1), (.int .u64 5))] (fun t106 w =>
  cl Try.prog 71 #[t106, t1] (fun t109 w =>
  un .not t109 (fun t110 w =>
  ifb t110
  (lnS t1 (fun t112 w =>
  boI .geq t112 (.int .i64 16) (fun t113 w =>
  gd t113 false (fun K w => K t106 w) (fun t115 w =>
  gd t113 false (ixs 1 t115 (.int .i64 0)) (fun t116 w =>
  gd t113 false (ld1 t116) (fun t117 w =>
  gd t113 false (boI .neq t117 (.int .u64 4)) (fun t118 w =>
  pk t113 (.bool true) t118 (fun t119 w =>
  gd t119 false (fun K w => K t106 w) (fun t121 w =>
  gd t119 false (ixs 1 t121 (.int .i64 1)) (fun t122 w =>
  gd t119 false (ld1 t122) (fun t123 w =>
  gd t119 false (boI .neq t123 (.int .u64 5)) (fun t124 w =>
  pk t119 (.bool true) t124 (fun t125 w =>
  ifb t125
  (K (.bool false) w)
  (s27_p1 K w)) w) w) w) w) w) w) w) w) w) w) w) w)
  (s27_p1 K w)) w) w) w
def s27_p2_den (K : Value → World → Prop) : (Nat → Value) → World → Prop := denL Try.prog [(cd (Try.f27.body.getD .skip) [1, 1, 1, 1, 1, 1, 1, 1, 1, 1, 1, 1, 0]), (cd (Try.f27.body.getD .skip) [1, 1, 1, 1, 1, 1, 1, 1, 1, 1, 1, 1, 1, 0, 0]), (cd (Try.f27.body.getD .skip) [1, 1, 1, 1, 1, 1, 1, 1, 1, 1, 1, 1, 1, 0, 1])] (s27_p1_den K) (fun i => (fun _ _ => False)) (s27_R K)
theorem s27_p2_ok (K : Value → World → Prop) (s : Nat → Value) (w : World) (h : s27_p2 K (s 1) w) : Tr (s27_p2_den K s w) :=
  tr_simple (P := Try.prog) (codes := [(cd (Try.f27.body.getD .skip) [1, 1, 1, 1, 1, 1, 1, 1, 1, 1, 1, 1, 0]), (cd (Try.f27.body.getD .skip) [1, 1, 1, 1, 1, 1, 1, 1, 1, 1, 1, 1, 1, 0, 0]), (cd (Try.f27.body.getD .skip) [1, 1, 1, 1, 1, 1, 1, 1, 1, 1, 1, 1, 1, 0, 1])]) (N := (fun s w => s27_p1 K w)) (N' := (s27_p1_den K)) (X := (fun i => (fun _ _ => False))) (X' := (fun i => (fun _ _ => False))) (R := s27_R K) (s := s) (w := w) (p := s27_p2 K (s 1) w) (q := s27_p2_den K s w) (fun s w h => s27_p1_ok K s w @h) (fun i => tr_id) (by kernel_rfl) (by kernel_rfl) @h
def s27_p3 (K : Value → World → Prop) (t1 t73 : Value) (w : World) : Prop :=
  ifb t73
  (K (.bool false) w)
  (bsq 93 [(.int .u32 0)] 3 [(some (0, 1), (.int .u32 1)), (some (1, 1), (.int .u32 2)), (some (2, 1), (.int .u32 3))] (fun t74 w =>
  cl Try.prog 67 #[t74, t1] (fun t77 w =>
  un .not t77 (fun t78 w =>
  gd t78 false (fun K w => K t74 w) (fun t80 w =>
  gd t78 false (fun K w => K t1 w) (fun t81 w =>
  gd t78 false (cl Try.prog 69 #[t80, t81]) (fun t82 w =>
  gd t78 false (un .not t82) (fun t83 w =>
  pk t78 (.bool true) t83 (fun t84 w =>
  ifb t84
  (lnS t1 (fun t86 w =>
  boI .geq t86 (.int .i64 12) (fun t87 w =>
  gd t87 false (fun K w => K t74 w) (fun t89 w =>
  gd t87 false (ixs 1 t89 (.int .i64 0)) (fun t90 w =>
  gd t87 false (ld1 t90) (fun t91 w =>
  gd t87 false (boI .neq t91 (.int .u32 1)) (fun t92 w =>
  pk t87 (.bool true) t92 (fun t93 w =>
  gd t93 false (fun K w => K t74 w) (fun t95 w =>
  gd t93 false (ixs 1 t95 (.int .i64 1)) (fun t96 w =>
  gd t93 false (ld1 t96) (fun t97 w =>
  gd t93 false (boI .neq t97 (.int .u32 2)) (fun t98 w =>
  pk t93 (.bool true) t98 (fun t99 w =>
  gd t99 false (fun K w => K t74 w) (fun t101 w =>
  gd t99 false (ixs 1 t101 (.int .i64 2)) (fun t102 w =>
  gd t99 false (ld1 t102) (fun t103 w =>
  gd t99 false (boI .neq t103 (.int .u32 3)) (fun t104 w =>
  pk t99 (.bool true) t104 (fun t105 w =>
  ifb t105
  (K (.bool false) w)
  (s27_p2 K t1 w)) w) w) w) w) w) w) w) w) w) w) w) w) w) w) w) w) w)
  (s27_p2 K t1 w)) w) w) w) w) w) w) w) w)
def s27_p3_den (K : Value → World → Prop) : (Nat → Value) → World → Prop := denL Try.prog [(cd (Try.f27.body.getD .skip) [1, 1, 1, 1, 1, 1, 1, 1, 1, 0, 1]), (cd (Try.f27.body.getD .skip) [1, 1, 1, 1, 1, 1, 1, 1, 1, 1, 0]), (cd (Try.f27.body.getD .skip) [1, 1, 1, 1, 1, 1, 1, 1, 1, 1, 1, 0, 0]), (cd (Try.f27.body.getD .skip) [1, 1, 1, 1, 1, 1, 1, 1, 1, 1, 1, 0, 1])] (s27_p2_den K) (fun i => (fun _ _ => False)) (s27_R K)
theorem s27_p3_ok (K : Value → World → Prop) (s : Nat → Value) (w : World) (h : s27_p3 K (s 1) (s 73) w) : Tr (s27_p3_den K s w) :=
  tr_simple (P := Try.prog) (codes := [(cd (Try.f27.body.getD .skip) [1, 1, 1, 1, 1, 1, 1, 1, 1, 0, 1]), (cd (Try.f27.body.getD .skip) [1, 1, 1, 1, 1, 1, 1, 1, 1, 1, 0]), (cd (Try.f27.body.getD .skip) [1, 1, 1, 1, 1, 1, 1, 1, 1, 1, 1, 0, 0]), (cd (Try.f27.body.getD .skip) [1, 1, 1, 1, 1, 1, 1, 1, 1, 1, 1, 0, 1])]) (N := (fun s w => s27_p2 K (s 1) w)) (N' := (s27_p2_den K)) (X := (fun i => (fun _ _ => False))) (X' := (fun i => (fun _ _ => False))) (R := s27_R K) (s := s) (w := w) (p := s27_p3 K (s 1) (s 73) w) (q := s27_p3_den K s w) (fun s w h => s27_p2_ok K s w @h) (fun i => tr_id) (by kernel_rfl) (by kernel_rfl) @h
def s27_p4_d (K : Value → World → Prop) (t0 t1 t6 t7 t8 : Value) (w0 w : World) : Prop :=
  boF Try.prog true .eql t8 .nilIface (fun t63 _ =>
  gd t63 true (fun K w => K t7 w) (fun t65 _ =>
  gd t63 true (fun K w => K t6 w) (fun t66 _ =>
  gd t63 true (sls 1 t65 none (some t66)) (fun t67 _ =>
  gd t63 true (fun K w => K t0 w) (fun t68 _ =>
  gd t63 true (fun K w => K t6 w) (fun t69 _ =>
  gd t63 true (sls 1 t68 none (some t69)) (fun t70 _ =>
  gd t63 true (cl Try.prog 18 #[t67, t70]) (fun t71 w =>
  gd t63 true (un .not t71) (fun t72 w =>
  pk t63 t72 (.bool false) (fun t73 w =>
  s27_p3 K t1 t73 w) w) w) w) w0) w0) w0) w0) w0) w0) w0
def s27_p4 (K : Value → World → Prop) (t0 t1 t6 t7 t8 : Value) (w : World) : Prop := s27_p4_d K t0 t1 t6 t7 t8 (drw w) (drw w)
def s27_p4_den (K : Value → World → Prop) : (Nat → Value) → World → Prop := denL Try.prog [(cd (Try.f27.body.getD .skip) [1, 1, 1, 1, 1, 1, 1, 1, 1, 0, 0])] (s27_p3_den K) (fun i => (fun _ _ => False)) (s27_R K)
theorem s27_p4_ok (K : Value → World → Prop) (s : Nat → Value) (w : World) (h : s27_p4 K (s 0) (s 1) (s 6) (s 7) (s 8) w) : Tr (s27_p4_den K s w) :=
  tr_draw (P := Try.prog) (ops := (ro (cd (Try.f27.body.getD .skip) [1, 1, 1, 1, 1, 1, 1, 1, 1, 0, 0]))) (ms := [0, 1, 3, 7, 7, 31, 7, 7, 199, 511, 1023, 2047]) (cs := [0, 1, 2, 3, 4, 5, 6, 7, 8]) (N := (fun s w => s27_p3 K (s 1) (s 73) w)) (N' := (s27_p3_den K)) (s := s) (w := w) (p := s27_p4 K (s 0) (s 1) (s 6) (s 7) (s 8) w) (q := s27_p4_den K s w) (by kernel_rfl) (by kernel_rfl) (fun s w h => s27_p3_ok K s w @h) (by kernel_rfl) (by kernel_rfl) @h
def s27_p5 (K : Value → World → Prop) (t0 t1 : Value) (w : World) : Prop :=
  cl Try.prog 32 #[t0] (fun t12 w =>
  cl Try.prog 40 #[t12, t1] (fun t15 w =>
  un .not t15 (fun t16 w =>
  gd t16 true (fun K w => K t12 w) (fun t18 w =>
  gd t16 true (fun K w => K t0 w) (fun t19 w =>
  gd t16 true (cl Try.prog 18 #[t18, t19]) (fun t20 w =>
  gd t16 true (un .not t20) (fun t21 w =>
  pk t16 t21 (.bool false) (fun t22 w =>
  ifb t22
  (K (.bool false) w)
  (cl Try.prog 32 #[t0] (fun t24 w =>
  cl Try.prog 41 #[t24, t1] (fun t27 w =>
  un .not t27 (fun t28 w =>
  gd t28 true (fun K w => K t24 w) (fun t30 w =>
  gd t28 true (fun K w => K t0 w) (fun t31 w =>
  gd t28 true (cl Try.prog 18 #[t30, t31]) (fun t32 w =>
  gd t28 true (un .not t32) (fun t33 w =>
  pk t28 t33 (.bool false) (fun t34 w =>
  ifb t34
  (K (.bool false) w)
  (cl Try.prog 32 #[t0] (fun t36 w =>
  lnS t36 (fun t38 w =>
  boI .quo t38 (.int .i64 2) (fun t39 w =>
  sls 1 t36 none (some t39) (fun t43 w =>
  cl Try.prog 44 #[t43, t1] (fun t45 w =>
  exq t45 0 (fun t46 w =>
  exq t45 1 (fun t47 w =>
  boF Try.prog true .neq t47 .nilIface (fun t49 w =>
  gd t49 true (fun K w => K t46 w) (fun t51 w =>
  gd t49 true (lnS t51) (fun t52 w =>
  gd t49 true (fun K w => K t39 w) (fun t53 w =>
  gd t49 true (boI .neq t52 t53) (fun t54 w =>
  gd t49 true (fun K w => K t54 w) (fun t55 w =>
  gd t55 false (fun K w => K t36 w) (fun t56 w =>
  gd t55 false (fun K w => K t0 w) (fun t57 w =>
  gd t55 false (cl Try.prog 18 #[t56, t57]) (fun t58 w =>
  gd t55 false (un .not t58) (fun t59 w =>
  gd t49 true (pk t55 (.bool true) t59) (fun t60 w =>
  pk t49 t60 (.bool false) (fun t61 w =>
  ifb t61
  (K (.bool false) w)
  (s27_p4 K t0 t1 t39 t46 t47 w)) w) w) w) w) w) w) w) w) w) w) w) w) w) w) w) w) w) w) w)) w) w) w) w) w) w) w) w)) w) w) w) w) w) w) w) w
def s27_p5_den (K : Value → World → Prop) : (Nat → Value) → World → Prop := denL Try.prog [(cd (Try.f27.body.getD .skip) [0]), (cd (Try.f27.body.getD .skip) [1, 0]), (cd (Try.f27.body.getD .skip) [1, 1, 0, 0]), (cd (Try.f27.body.getD .skip) [1, 1, 0, 1]), (cd (Try.f27.body.getD .skip) [1, 1, 1, 0]), (cd (Try.f27.body.getD .skip) [1, 1, 1, 1, 0, 0]), (cd (Try.f27.body.getD .skip) [1, 1, 1, 1, 0, 1]), (cd (Try.f27.body.getD .skip) [1, 1, 1, 1, 1, 0]), (cd (Try.f27.body.getD .skip) [1, 1, 1, 1, 1, 1, 0]), (cd (Try.f27.body.getD .skip) [1, 1, 1, 1, 1, 1, 1, 0]), (cd (Try.f27.body.getD .skip) [1, 1, 1, 1, 1, 1, 1, 1, 0, 0]), (cd (Try.f27.body.getD .skip) [1, 1, 1, 1, 1, 1, 1, 1, 0, 1])] (s27_p4_den K) (fun i => (fun _ _ => False)) (s27_R K)
theorem s27_p5_ok (K : Value → World → Prop) (s : Nat → Value) (w : World) (h : s27_p5 K (s 0) (s 1) w) : Tr (s27_p5_den K s w) :=
  tr_simple (P := Try.prog) (codes := [(cd (Try.f27.body.getD .skip) [0]), (cd (Try.f27.body.getD .skip) [1, 0]), (cd (Try.f27.body.getD .skip) [1, 1, 0, 0]), (cd (Try.f27.body.getD .skip) [1, 1, 0, 1]), (cd (Try.f27.body.getD .skip) [1, 1, 1, 0]), (cd (Try.f27.body.getD .skip) [1, 1, 1, 1, 0, 0]), (cd (Try.f27.body.getD .skip) [1, 1, 1, 1, 0, 1]), (cd (Try.f27.body.getD .skip) [1, 1, 1, 1, 1, 0]), (cd (Try.f27.body.getD .skip) [1, 1, 1, 1, 1, 1, 0]), (cd (Try.f27.body.getD .skip) [1, 1, 1, 1, 1, 1, 1, 0]), (cd (Try.f27.body.getD .skip) [1, 1, 1, 1, 1, 1, 1, 1, 0, 0]), (cd (Try.f27.body.getD .skip) [1, 1, 1, 1, 1, 1, 1, 1, 0, 1])]) (N := (fun s w => s27_p4 K (s 0) (s 1) (s 6) (s 7) (s 8) w)) (N' := (s27_p4_den K)) (X := (fun i => (fun _ _ => False))) (X' := (fun i => (fun _ _ => False))) (R := s27_R K) (s := s) (w := w) (p := s27_p5 K (s 0) (s 1) w) (q := s27_p5_den K s w) (fun s w h => s27_p4_ok K s w @h) (fun i => tr_id) (by kernel_rfl) (by kernel_rfl) @h
/-- the call, from the text -/
theorem c27 (t0 t1 : Value) {K : Value → World → Prop} {w : World} (h : s27_p5 K t0 t1 w) : cl Try.prog 27 #[t0, t1] K w :=
  calls_of_tr (c := (Try.f27.body.getD .skip)) (fn := Try.f27) (q := s27_p5_den K (st0 #[t0, t1]) w) Try.func27 (by kernel_rfl) (by kernel_rfl) (Nat.le_of_ble_eq_true (by kernel_rfl)) (by kernel_rfl) (by kernel_rfl) (s27_p5_ok K (st0 #[t0, t1]) w @h)

/-! ### function 32 : e2e.octets.Clone -/
def s32_R (K : Value → World → Prop) (s : Nat → Value) (w : World) : Prop := retv Try.prog s Try.f32.results.toList (fun vs => K (pack vs) w) w
def s32_p1 (K : Value → World → Prop) (t0 : Value) (w : World) : Prop :=
  lnS t0 (fun t5 w =>
  mks 5 [(.int .u8 0)] 1 t5 t5 (fun t6 w =>
  cpq 1 t6 t0 (fun t9 w =>
  K t6 w) w) w) w
def s32_p1_den (K : Value → World → Prop) : (Nat → Value) → World → Prop := denL Try.prog [(cd (Try.f32.body.getD .skip) [0]), (cd (Try.f32.body.getD .skip) [1, 0]), (cd (Try.f32.body.getD .skip) [1, 1, 0]), (cd (Try.f32.body.getD .skip) [1, 1, 1, 0]), (cd (Try.f32.body.getD .skip) [1, 1, 1, 1])] (fun _ _ => False) (fun i => (fun _ _ => False)) (s32_R K)
theorem s32_p1_ok (K : Value → World → Prop) (s : Nat → Value) (w : World) (h : s32_p1 K (s 0) w) : Tr (s32_p1_den K s w) :=
  tr_simple (P := Try.prog) (codes := [(cd (Try.f32.body.getD .skip) [0]), (cd (Try.f32.body.getD .skip) [1, 0]), (cd (Try.f32.body.getD .skip) [1, 1, 0]), (cd (Try.f32.body.getD .skip) [1, 1, 1, 0]), (cd (Try.f32.body.getD .skip) [1, 1, 1, 1])]) (N := (fun _ _ => False)) (N' := (fun _ _ => False)) (X := (fun i => (fun _ _ => False))) (X' := (fun i => (fun _ _ => False))) (R := s32_R K) (s := s) (w := w) (p := s32_p1 K (s 0) w) (q := s32_p1_den K s w) tr_id (fun i => tr_id) (by kernel_rfl) (by kernel_rfl) @h
/-- the call, from the text -/
theorem c32 (t0 : Value) {K : Value → World → Prop} {w : World} (h : s32_p1 K t0 w) : cl Try.prog 32 #[t0] K w :=
  calls_of_tr (c := (Try.f32.body.getD .skip)) (fn := Try.f32) (q := s32_p1_den K (st0 #[t0]) w) Try.func32 (by kernel_rfl) (by kernel_rfl) (Nat.le_of_ble_eq_true (by kernel_rfl)) (by kernel_rfl) (by kernel_rfl) (s32_p1_ok K (st0 #[t0]) w @h)

/-! ### function 33 : e2e.octetslaw.goodWidth -/
def s33_R (K : Value → World → Prop) (s : Nat → Value) (w : World) : Prop := retv Try.prog s Try.f33.results.toList (fun vs => K (pack vs) w) w
def s33_p1 (K : Value → World → Prop) (t0 : Value) (w : World) : Prop :=
  boI .eql t0 (.int .i64 2) (fun t4 w =>
  gd t4 false (fun K w => K t0 w) (fun t6 w =>
  gd t4 false (boI .eql t6 (.int .i64 4)) (fun t7 w =>
  pk t4 (.bool true) t7 (fun t8 w =>
  gd t8 false (fun K w => K t0 w) (fun t10 w =>
  gd t8 false (boI .eql t10 (.int .i64 8)) (fun t11 w =>
  pk t8 (.bool true) t11 (fun t12 w =>
  K t12 w) w) w) w) w) w) w) w
def s33_p1_den (K : Value → World → Prop) : (Nat → Value) → World → Prop := denL Try.prog [(cd (Try.f33.body.getD .skip) [0]), (cd (Try.f33.body.getD .skip) [1, 0]), (cd (Try.f33.body.getD .skip) [1, 1])] (fun _ _ => False) (fun i => (fun _ _ => False)) (s33_R K)
theorem s33_p1_ok (K : Value → World → Prop) (s : Nat → Value) (w : World) (h : s33_p1 K (s 0) w) : Tr (s33_p1_den K s w) :=
  tr_simple (P := Try.prog) (codes := [(cd (Try.f33.body.getD .skip) [0]), (cd (Try.f33.body.getD .skip) [1, 0]), (cd (Try.f33.body.getD .skip) [1, 1])]) (N := (fun _ _ => False)) (N' := (fun _ _ => False)) (X := (fun i => (fun _ _ => False))) (X' := (fun i => (fun _ _ => False))) (R := s33_R K) (s := s) (w := w) (p := s33_p1 K (s 0) w) (q := s33_p1_den K s w) tr_id (fun i => tr_id) (by kernel_rfl) (by kernel_rfl) @h
/-- the call, from the text -/
theorem c33 (t0 : Value) {K : Value → World → Prop} {w : World} (h : s33_p1 K t0 w) : cl Try.prog 33 #[t0] K w :=
  calls_of_tr (c := (Try.f33.body.getD .skip)) (fn := Try.f33) (q := s33_p1_den K (st0 #[t0]) w) Try.func33 (by kernel_rfl) (by kernel_rfl) (Nat.le_of_ble_eq_true (by kernel_rfl)) (by kernel_rfl) (by kernel_rfl) (s33_p1_ok K (st0 #[t0]) w @h)

/-! ### function 34 : e2e.octets.Fits -/
def s34_R (K : Value → World → Prop) (s : Nat → Value) (w : World) : Prop := retv Try.prog s Try.f34.results.toList (fun vs => K (pack vs) w) w
def s34_p1 (K : Value → World → Prop) (t0 t1 t2 : Value) (w : World) : Prop :=
  boI .geq t1 (.int .i64 0) (fun t8 w =>
  gd t8 true (fun K w => K t2 w) (fun t10 w =>
  gd t8 true (boI .geq t10 (.int .i64 0)) (fun t11 w =>
  pk t8 t11 (.bool false) (fun t12 w =>
  gd t12 true (fun K w => K t1 w) (fun t14 w =>
  gd t12 true (fun K w => K t0 w) (fun t15 w =>
  gd t12 true (boI .leq t14 t15) (fun t16 w =>
  pk t12 t16 (.bool false) (fun t17 w =>
  gd t17 true (fun K w => K t2 w) (fun t19 w =>
  gd t17 true (fun K w => K t0 w) (fun t20 w =>
  gd t17 true (fun K w => K t1 w) (fun t21 w =>
  gd t17 true (boI .sub t20 t21) (fun t22 w =>
  gd t17 true (boI .leq t19 t22) (fun t23 w =>
  pk t17 t23 (.bool false) (fun t24 w =>
  K t24 w) w) w) w) w) w) w) w) w) w) w) w) w) w) w
def s34_p1_den (K : Value → World → Prop) : (Nat → Value) → World → Prop := denL Try.prog [(cd (Try.f34.body.getD .skip) [0]), (cd (Try.f34.body.getD .skip) [1, 0]), (cd (Try.f34.body.getD .skip) [1, 1])] (fun _ _ => False) (fun i => (fun _ _ => False)) (s34_R K)
theorem s34_p1_ok (K : Value → World → Prop) (s : Nat → Value) (w : World) (h : s34_p1 K (s 0) (s 1) (s 2) w) : Tr (s34_p1_den K s w) :=
  tr_simple (P := Try.prog) (codes := [(cd (Try.f34.body.getD .skip) [0]), (cd (Try.f34.body.getD .skip) [1, 0]), (cd (Try.f34.body.getD .skip) [1, 1])]) (N := (fun _ _ => False)) (N' := (fun _ _ => False)) (X := (fun i => (fun _ _ => False))) (X' := (fun i => (fun _ _ => False))) (R := s34_R K) (s := s) (w := w) (p := s34_p1 K (s 0) (s 1) (s 2) w) (q := s34_p1_den K s w) tr_id (fun i => tr_id) (by kernel_rfl) (by kernel_rfl) @h
/-- the call, from the text -/
theorem c34 (t0 t1 t2 : Value) {K : Value → World → Prop} {w : World} (h : s34_p1 K t0 t1 t2 w) : cl Try.prog 34 #[t0, t1, t2] K w :=
  calls_of_tr (c := (Try.f34.body.getD .skip)) (fn := Try.f34) (q := s34_p1_den K (st0 #[t0, t1, t2]) w) Try.func34 (by kernel_rfl) (by kernel_rfl) (Nat.le_of_ble_eq_true (by kernel_rfl)) (by kernel_rfl) (by kernel_rfl) (s34_p1_ok K (st0 #[t0, t1, t2]) w @h)

/-! ### function 35 : e2e.octetslaw.load -/
def s35_R (K : Value → World → Prop) (s : Nat → Value) (w : World) : Prop := retv Try.prog s Try.f35.results.toList (fun vs => K (pack vs) w) w
def s35_p1 (K : Value → World → Prop) (t0 t1 t2 : Value) (w : World) : Prop :=
  boI .eql t1 (.int .i64 2) (fun t9 w =>
  gd t9 true (fun K w => K t2 w) (fun t11 w =>
  pk t9 t11 (.bool false) (fun t12 w =>
  ifb t12
  (cl Try.prog 73 #[t0] (fun t14 w =>
  cvi .u64 t14 (fun t15 w =>
  K t15 w) w) w)
  (boI .eql t1 (.int .i64 2) (fun t18 w =>
  ifb t18
  (cl Try.prog 74 #[t0] (fun t20 w =>
  cvi .u64 t20 (fun t21 w =>
  K t21 w) w) w)
  (boI .eql t1 (.int .i64 4) (fun t24 w =>
  gd t24 true (fun K w => K t2 w) (fun t26 w =>
  pk t24 t26 (.bool false) (fun t27 w =>
  ifb t27
  (cl Try.prog 70 #[t0] (fun t29 w =>
  cvi .u64 t29 (fun t30 w =>
  K t30 w) w) w)
  (boI .eql t1 (.int .i64 4) (fun t33 w =>
  ifb t33
  (cl Try.prog 68 #[t0] (fun t35 w =>
  cvi .u64 t35 (fun t36 w =>
  K t36 w) w) w)
  (ifb t2
  (cl Try.prog 75 #[t0] (fun t40 w =>
  K t40 w) w)
  (cl Try.prog 72 #[t0] (fun t42 w =>
  K t42 w) w))) w)) w) w) w)) w)) w) w) w
def s35_p1_den (K : Value → World → Prop) : (Nat → Value) → World → Prop := denL Try.prog [(cd (Try.f35.body.getD .skip) [0]), (cd (Try.f35.body.getD .skip) [1, 0]), (cd (Try.f35.body.getD .skip) [1, 1, 0]), (cd (Try.f35.body.getD .skip) [1, 1, 1])] (fun _ _ => False) (fun i => (fun _ _ => False)) (s35_R K)
theorem s35_p1_ok (K : Value → World → Prop) (s : Nat → Value) (w : World) (h : s35_p1 K (s 0) (s 1) (s 2) w) : Tr (s35_p1_den K s w) :=
  tr_simple (P := Try.prog) (codes := [(cd (Try.f35.body.getD .skip) [0]), (cd (Try.f35.body.getD .skip) [1, 0]), (cd (Try.f35.body.getD .skip) [1, 1, 0]), (cd (Try.f35.body.getD .skip) [1, 1, 1])]) (N := (fun _ _ => False)) (N' := (fun _ _ => False)) (X := (fun i => (fun _ _ => False))) (X' := (fun i => (fun _ _ => False))) (R := s35_R K) (s := s) (w := w) (p := s35_p1 K (s 0) (s 1) (s 2) w) (q := s35_p1_den K s w) tr_id (fun i => tr_id) (by kernel_rfl) (by kernel_rfl) @h
/-- the call, from the text -/
theorem c35 (t0 t1 t2 : Value) {K : Value → World → Prop} {w : World} (h : s35_p1 K t0 t1 t2 w) : cl Try.prog 35 #[t0, t1, t2] K w :=
  calls_of_tr (c := (Try.f35.body.getD .skip)) (fn := Try.f35) (q := s35_p1_den K (st0 #[t0, t1, t2]) w) Try.func35 (by kernel_rfl) (by kernel_rfl) (Nat.le_of_ble_eq_true (by kernel_rfl)) (by kernel_rfl) (by kernel_rfl) (s35_p1_ok K (st0 #[t0, t1, t2]) w @h)

/-! ### function 36 : e2e.octetslaw.store -/
def s36_R (K : Value → World → Prop) (s : Nat → Value) (w : World) : Prop := retv Try.prog s Try.f36.results.toList (fun vs => K (pack vs) w) w
def s36_p1 (K : Value → World → Prop) (t0 t1 t2 t3 : Value) (w : World) : Prop :=
  boI .eql t1 (.int .i64 2) (fun t13 w =>
  gd t13 true (fun K w => K t2 w) (fun t15 w =>
  pk t13 t15 (.bool false) (fun t16 w =>
  ifb t16
  (cvi .u16 t3 (fun t19 w =>
  cl Try.prog 76 #[t0, t19] (fun t20 w =>
  K (.tuple #[]) w) w) w)
  (boI .eql t1 (.int .i64 2) (fun t23 w =>
  ifb t23
  (cvi .u16 t3 (fun t26 w =>
  cl Try.prog 77 #[t0, t26] (fun t27 w =>
  K (.tuple #[]) w) w) w)
  (boI .eql t1 (.int .i64 4) (fun t30 w =>
  gd t30 true (fun K w => K t2 w) (fun t32 w =>
  pk t30 t32 (.bool false) (fun t33 w =>
  ifb t33
  (cvi .u32 t3 (fun t36 w =>
  cl Try.prog 78 #[t0, t36] (fun t37 w =>
  K (.tuple #[]) w) w) w)
  (boI .eql t1 (.int .i64 4) (fun t40 w =>
  ifb t40
  (cvi .u32 t3 (fun t43 w =>
  cl Try.prog 79 #[t0, t43] (fun t44 w =>
  K (.tuple #[]) w) w) w)
  (ifb t2
  (cl Try.prog 80 #[t0, t3] (fun t49 w =>
  K (.tuple #[]) w) w)
  (cl Try.prog 81 #[t0, t3] (fun t10 w =>
  K (.tuple #[]) w) w))) w)) w) w) w)) w)) w) w) w
def s36_p1_den (K : Value → World → Prop) : (Nat → Value) → World → Prop := denL Try.prog [(cd (Try.f36.body.getD .skip) [])] (s36_R K) (fun i => (fun _ _ => False)) (s36_R K)
theorem s36_p1_ok (K : Value → World → Prop) (s : Nat → Value) (w : World) (h : s36_p1 K (s 0) (s 1) (s 2) (s 3) w) : Tr (s36_p1_den K s w) :=
  tr_simple (P := Try.prog) (codes := [(cd (Try.f36.body.getD .skip) [])]) (N := (s36_R K)) (N' := (s36_R K)) (X := (fun i => (fun _ _ => False))) (X' := (fun i => (fun _ _ => False))) (R := s36_R K) (s := s) (w := w) (p := s36_p1 K (s 0) (s 1) (s 2) (s 3) w) (q := s36_p1_den K s w) tr_id (fun i => tr_id) (by kernel_rfl) (by kernel_rfl) @h
/-- the call, from the text -/
theorem c36 (t0 t1 t2 t3 : Value) {K : Value → World → Prop} {w : World} (h : s36_p1 K t0 t1 t2 t3 w) : cl Try.prog 36 #[t0, t1, t2, t3] K w :=
  calls_of_tr (c := (Try.f36.body.getD .skip)) (fn := Try.f36) (q := s36_p1_den K (st0 #[t0, t1, t2, t3]) w) Try.func36 (by kernel_rfl) (by kernel_rfl) (Nat.le_of_ble_eq_true (by kernel_rfl)) (by kernel_rfl) (by kernel_rfl) (s36_p1_ok K (st0 #[t0, t1, t2, t3]) w @h)

/-! ### function 37 : e2e.octetslaw.extend -/
def s37_R (K : Value → World → Prop) (s : Nat → Value) (w : World) : Prop := retv Try.prog s Try.f37.results.toList (fun vs => K (pack vs) w) w
def s37_p1 (K : Value → World → Prop) (t0 t1 t2 t3 : Value) (w : World) : Prop :=
  boI .eql t1 (.int .i64 2) (fun t11 w =>
  gd t11 true (fun K w => K t2 w) (fun t13 w =>
  pk t11 t13 (.bool false) (fun t14 w =>
  ifb t14
  (cvi .u16 t3 (fun t17 w =>
  cl Try.prog 82 #[t0, t17] (fun t18 w =>
  K t18 w) w) w)
  (boI .eql t1 (.int .i64 2) (fun t21 w =>
  ifb t21
  (cvi .u16 t3 (fun t24 w =>
  cl Try.prog 83 #[t0, t24] (fun t25 w =>
  K t25 w) w) w)
  (boI .eql t1 (.int .i64 4) (fun t28 w =>
  gd t28 true (fun K w => K t2 w) (fun t30 w =>
  pk t28 t30 (.bool false) (fun t31 w =>
  ifb t31
  (cvi .u32 t3 (fun t34 w =>
  cl Try.prog 84 #[t0, t34] (fun t35 w =>
  K t35 w) w) w)
  (boI .eql t1 (.int .i64 4) (fun t38 w =>
  ifb t38
  (cvi .u32 t3 (fun t41 w =>
  cl Try.prog 85 #[t0, t41] (fun t42 w =>
  K t42 w) w) w)
  (ifb t2
  (cl Try.prog 86 #[t0, t3] (fun t47 w =>
  K t47 w) w)
  (cl Try.prog 87 #[t0, t3] (fun t50 w =>
  K t50 w) w))) w)) w) w) w)) w)) w) w) w
def s37_p1_den (K : Value → World → Prop) : (Nat → Value) → World → Prop := denL Try.prog [(cd (Try.f37.body.getD .skip) [0]), (cd (Try.f37.body.getD .skip) [1, 0]), (cd (Try.f37.body.getD .skip) [1, 1, 0]), (cd (Try.f37.body.getD .skip) [1, 1, 1])] (fun _ _ => False) (fun i => (fun _ _ => False)) (s37_R K)
theorem s37_p1_ok (K : Value → World → Prop) (s : Nat → Value) (w : World) (h : s37_p1 K (s 0) (s 1) (s 2) (s 3) w) : Tr (s37_p1_den K s w) :=
  tr_simple (P := Try.prog) (codes := [(cd (Try.f37.body.getD .skip) [0]), (cd (Try.f37.body.getD .skip) [1, 0]), (cd (Try.f37.body.getD .skip) [1, 1, 0]), (cd (Try.f37.body.getD .skip) [1, 1, 1])]) (N := (fun _ _ => False)) (N' := (fun _ _ => False)) (X := (fun i => (fun _ _ => False))) (X' := (fun i => (fun _ _ => False))) (R := s37_R K) (s := s) (w := w) (p := s37_p1 K (s 0) (s 1) (s 2) (s 3) w) (q := s37_p1_den K s w) tr_id (fun i => tr_id) (by kernel_rfl) (by kernel_rfl) @h
/-- the call, from the text -/
theorem c37 (t0 t1 t2 t3 : Value) {K : Value → World → Prop} {w : World} (h : s37_p1 K t0 t1 t2 t3 w) : cl Try.prog 37 #[t0, t1, t2, t3] K w :=
  calls_of_tr (c := (Try.f37.body.getD .skip)) (fn := Try.f37) (q := s37_p1_den K (st0 #[t0, t1, t2, t3]) w) Try.func37 (by kernel_rfl) (by kernel_rfl) (Nat.le_of_ble_eq_true (by kernel_rfl)) (by kernel_rfl) (by kernel_rfl) (s37_p1_ok K (st0 #[t0, t1, t2, t3]) w @h)

/-! ### function 38 : e2e.octets.RotateLeft -/
def s38_R (K : Value → World → Prop) (s : Nat → Value) (w : World) : Prop := retv Try.prog s Try.f38.results.toList (fun vs => K (pack vs) w) w
def s38_p1 (K : Value → World → Prop) (t0 t1 : Value) (w : World) : Prop :=
  lnS t0 (fun t6 w =>
  boI .eql t6 (.int .i64 0) (fun t7 w =>
  ifb t7
  (K (.tuple #[]) w)
  (lnS t0 (fun t9 w =>
  boI .mul (.int .i64 8) t9 (fun t10 w =>
  cl Try.prog 88 #[t1, t10] (fun t15 w =>
  boI .sub t10 t15 (fun t16 w =>
  cl Try.prog 39 #[t0, t16] (fun t17 w =>
  K (.tuple #[]) w) w) w) w) w) w)) w) w
def s38_p1_den (K : Value → World → Prop) : (Nat → Value) → World → Prop := denL Try.prog [(cd (Try.f38.body.getD .skip) [0, 0]), (cd (Try.f38.body.getD .skip) [0, 1]), (cd (Try.f38.body.getD .skip) [1, 0]), (cd (Try.f38.body.getD .skip) [1, 1])] (s38_R K) (fun i => (fun _ _ => False)) (s38_R K)
theorem s38_p1_ok (K : Value → World → Prop) (s : Nat → Value) (w : World) (h : s38_p1 K (s 0) (s 1) w) : Tr (s38_p1_den K s w) :=
  tr_simple (P := Try.prog) (codes := [(cd (Try.f38.body.getD .skip) [0, 0]), (cd (Try.f38.body.getD .skip) [0, 1]), (cd (Try.f38.body.getD .skip) [1, 0]), (cd (Try.f38.body.getD .skip) [1, 1])]) (N := (s38_R K)) (N' := (s38_R K)) (X := (fun i => (fun _ _ => False))) (X' := (fun i => (fun _ _ => False))) (R := s38_R K) (s := s) (w := w) (p := s38_p1 K (s 0) (s 1) w) (q := s38_p1_den K s w) tr_id (fun i => tr_id) (by kernel_rfl) (by kernel_rfl) @h
/-- the call, from the text -/
theorem c38 (t0 t1 : Value) {K : Value → World → Prop} {w : World} (h : s38_p1 K t0 t1 w) : cl Try.prog 38 #[t0, t1] K w :=
  calls_of_tr (c := (Try.f38.body.getD .skip)) (fn := Try.f38) (q := s38_p1_den K (st0 #[t0, t1]) w) Try.func38 (by kernel_rfl) (by kernel_rfl) (Nat.le_of_ble_eq_true (by kernel_rfl)) (by kernel_rfl) (by kernel_rfl) (s38_p1_ok K (st0 #[t0, t1]) w @h)

/-! ### function 39 : e2e.octets.RotateRight -/
def s39_R (K : Value → World → Prop) (s : Nat → Value) (w : World) : Prop := retv Try.prog s Try.f39.results.toList (fun vs => K (pack vs) w) w
def s39_p1 (K : Value → World → Prop) (B1 : List Value → World → Prop) (t0 t5 t6 t45 t46 t47 : Value) (w : World) : Prop :=
  boI .lss t47 t46 (fun t48 w =>
  ifb t48
  (ixs 1 t45 t47 (fun t50 w =>
  ld1 t50 (fun t51 w =>
  boI .shr t51 t5 (fun t57 w =>
  boI .or t6 t57 (fun t58 w =>
  ixs 1 t0 t47 (fun t59 w =>
  st1 t59 t58 (fun w =>
  boI .sub (.int .u64 8) t5 (fun t62 w =>
  boI .shl t51 t62 (fun t63 w =>
  boI .add t47 (.int .i64 1) (fun t64 w =>
  B1 [t0, t5, t63, t45, t46, t64] w) w) w) w) w) w) w) w) w) w)
  (K (.tuple #[]) w)) w
def s39_p1_den (K : Value → World → Prop) (M1 : (Nat → Value) → World → Prop) : (Nat → Value) → World → Prop := denL Try.prog [(cd (Try.f39.body.getD .skip) [1, 1, 1, 1, 1, 0, 1, 1, 0, 0, 0]), (cd (Try.f39.body.getD .skip) [1, 1, 1, 1, 1, 0, 1, 1, 0, 0, 1, 0]), (cd (Try.f39.body.getD .skip) [1, 1, 1, 1, 1, 0, 1, 1, 0, 0, 1, 1, 0]), (cd (Try.f39.body.getD .skip) [1, 1, 1, 1, 1, 0, 1, 1, 0, 0, 1, 1, 1])] M1 (fun i => (bif Nat.beq i 0 then (s39_R K) else (fun _ _ => False))) (s39_R K)
theorem s39_p1_ok (K : Value → World → Prop) (B1 : List Value → World → Prop) (s : Nat → Value) (w : World) (h : s39_p1 K B1 (s 0) (s 5) (s 6) (s 45) (s 46) (s 47) w) : Tr (s39_p1_den K (fun s w => B1 [s 0, s 5, s 6, s 45, s 46, s 47] w) s w) :=
  tr_simple (P := Try.prog) (codes := [(cd (Try.f39.body.getD .skip) [1, 1, 1, 1, 1, 0, 1, 1, 0, 0, 0]), (cd (Try.f39.body.getD .skip) [1, 1, 1, 1, 1, 0, 1, 1, 0, 0, 1, 0]), (cd (Try.f39.body.getD .skip) [1, 1, 1, 1, 1, 0, 1, 1, 0, 0, 1, 1, 0]), (cd (Try.f39.body.getD .skip) [1, 1, 1, 1, 1, 0, 1, 1, 0, 0, 1, 1, 1])]) (N := (fun s w => B1 [s 0, s 5, s 6, s 45, s 46, s 47] w)) (N' := (fun s w => B1 [s 0, s 5, s 6, s 45, s 46, s 47] w)) (X := (fun i => (bif Nat.beq i 0 then (s39_R K) else (fun _ _ => False)))) (X' := (fun i => (bif Nat.beq i 0 then (s39_R K) else (fun _ _ => False)))) (R := s39_R K) (s := s) (w := w) (p := s39_p1 K B1 (s 0) (s 5) (s 6) (s 45) (s 46) (s 47) w) (q := s39_p1_den K (fun s w => B1 [s 0, s 5, s 6, s 45, s 46, s 47] w) s w) tr_id (fun i => (tr_bif tr_id tr_id)) (by kernel_rfl) (by kernel_rfl) @h
def s39_p2_F (K : Value → World → Prop) (B1 : List Value → World → Prop) (l : List Value) (w : World) : Prop :=
  match l with
  | [t0, t5, t6, t45, t46, t47] => s39_p1 K B1 t0 t5 t6 t45 t46 t47 w
  | _ => False
theorem s39_p2_Fe {K : Value → World → Prop} {B1 : List Value → World → Prop} {t0 t5 t6 t45 t46 t47 : Value} {w : World} : s39_p2_F K B1 [t0, t5, t6, t45, t46, t47] w = s39_p1 K B1 t0 t5 t6 t45 t46 t47 w := by kernel_rfl
def s39_p2 (K : Value → World → Prop) (t0 t5 t6 t45 t46 t47 : Value) (w : World) : Prop :=
  LoopL (s39_p2_F K) [t0, t5, t6, t45, t46, t47] w
def s39_p2_den (K : Value → World → Prop) : (Nat → Value) → World → Prop := fun s w => LoopP (fun M1 s w => s39_p1_den K M1 s w) s w
theorem s39_p2_ok (K : Value → World → Prop) (s : Nat → Value) (w : World) (h : s39_p2 K (s 0) (s 5) (s 6) (s 45) (s 46) (s 47) w) : Tr (s39_p2_den K s w) :=
  tr_loop (G := fun N' s w => s39_p1_den K N' s w) (F := s39_p2_F K) (sel := fun s => [s 0, s 5, s 6, s 45, s 46, s 47]) (s := s) (w := w) (p := s39_p2 K (s 0) (s 5) (s 6) (s 45) (s 46) (s 47) w) (q := s39_p2_den K s w) (fun B s w h => s39_p1_ok K B s w @h) (by kernel_rfl) (by kernel_rfl) @h
def s39_p3 (K : Value → World → Prop) (t0 t5 : Value) (w : World) : Prop :=
  lnS t0 (fun t38 w =>
  boI .sub t38 (.int .i64 1) (fun t39 w =>
  ixs 1 t0 t39 (fun t40 w =>
  ld1 t40 (fun t41 w =>
  boI .sub (.int .u64 8) t5 (fun t43 w =>
  boI .shl t41 t43 (fun t44 w =>
  lnS t0 (fun t46 w =>
  s39_p2 K t0 t5 t44 t0 t46 (.int .i64 0) w) w) w) w) w) w) w) w
def s39_p3_den (K : Value → World → Prop) : (Nat → Value) → World → Prop := denL Try.prog [(cd (Try.f39.body.getD .skip) [1, 1, 1, 1, 1, 0, 0]), (cd (Try.f39.body.getD .skip) [1, 1, 1, 1, 1, 0, 1, 0])] (s39_p2_den K) (fun i => (fun _ _ => False)) (s39_R K)
theorem s39_p3_ok (K : Value → World → Prop) (s : Nat → Value) (w : World) (h : s39_p3 K (s 0) (s 5) w) : Tr (s39_p3_den K s w) :=
  tr_simple (P := Try.prog) (codes := [(cd (Try.f39.body.getD .skip) [1, 1, 1, 1, 1, 0, 0]), (cd (Try.f39.body.getD .skip) [1, 1, 1, 1, 1, 0, 1, 0])]) (N := (fun s w => s39_p2 K (s 0) (s 5) (s 6) (s 45) (s 46) (s 47) w)) (N' := (s39_p2_den K)) (X := (fun i => (fun _ _ => False))) (X' := (fun i => (fun _ _ => False))) (R := s39_R K) (s := s) (w := w) (p := s39_p3 K (s 0) (s 5) w) (q := s39_p3_den K s w) (fun s w h => s39_p2_ok K s w @h) (fun i => tr_id) (by kernel_rfl) (by kernel_rfl) @h
def s39_p4 (K : Value → World → Prop) (t0 t5 t35 : Value) (w : World) : Prop :=
  ifb t35
  (s39_p3 K t0 t5 w)
  (K (.tuple #[]) w)
def s39_p4_den (K : Value → World → Prop) : (Nat → Value) → World → Prop := fun s w => ifb (ev s (.tmp 35)) ((s39_p3_den K) s w) ((s39_R K) s w)
theorem s39_p4_ok (K : Value → World → Prop) (s : Nat → Value) (w : World) (h : s39_p4 K (s 0) (s 5) (s 35) w) : Tr (s39_p4_den K s w) :=
  tr_cond (v := ev s (.tmp 35)) (a := (fun s w => s39_p3 K (s 0) (s 5) w) s w) (a' := (s39_p3_den K) s w) (b := (s39_R K) s w) (b' := (s39_R K) s w) (p := s39_p4 K (s 0) (s 5) (s 35) w) (q := s39_p4_den K s w) ((fun s w h => s39_p3_ok K s w @h) s w) (tr_id s w) (by kernel_rfl) (by kernel_rfl) @h
def s39_p5 (K : Value → World → Prop) (t0 t1 : Value) (w : World) : Prop :=
  boI .rem t1 (.int .i64 8) (fun t32 w =>
  cvi .u64 t32 (fun t33 w =>
  boI .neq t33 (.int .u64 0) (fun t35 w =>
  s39_p4 K t0 t33 t35 w) w) w) w
def s39_p5_den (K : Value → World → Prop) : (Nat → Value) → World → Prop := denL Try.prog [(cd (Try.f39.body.getD .skip) [1, 1, 1, 0]), (cd (Try.f39.body.getD .skip) [1, 1, 1, 1, 0])] (s39_p4_den K) (fun i => (fun _ _ => False)) (s39_R K)
theorem s39_p5_ok (K : Value → World → Prop) (s : Nat → Value) (w : World) (h : s39_p5 K (s 0) (s 1) w) : Tr (s39_p5_den K s w) :=
  tr_simple (P := Try.prog) (codes := [(cd (Try.f39.body.getD .skip) [1, 1, 1, 0]), (cd (Try.f39.body.getD .skip) [1, 1, 1, 1, 0])]) (N := (fun s w => s39_p4 K (s 0) (s 5) (s 35) w)) (N' := (s39_p4_den K)) (X := (fun i => (fun _ _ => False))) (X' := (fun i => (fun _ _ => False))) (R := s39_R K) (s := s) (w := w) (p := s39_p5 K (s 0) (s 1) w) (q := s39_p5_den K s w) (fun s w h => s39_p4_ok K s w @h) (fun i => tr_id) (by kernel_rfl) (by kernel_rfl) @h
def s39_p6 (K : Value → World → Prop) (t0 t1 : Value) (w : World) : Prop :=
  lnS t0 (fun t10 w =>
  boI .eql t10 (.int .i64 0) (fun t11 w =>
  ifb t11
  (K (.tuple #[]) w)
  (lnS t0 (fun t14 w =>
  boI .mul (.int .i64 8) t14 (fun t15 w =>
  cl Try.prog 88 #[t1, t15] (fun t16 w =>
  boI .quo t16 (.int .i64 8) (fun t18 w =>
  boI .neq t18 (.int .i64 0) (fun t20 w =>
  ifb t20
  (cl Try.prog 89 #[t0] (fun t22 w =>
  sls 1 t0 none (some t18) (fun t25 w =>
  cl Try.prog 89 #[t25] (fun t26 w =>
  sls 1 t0 (some t18) none (fun t29 w =>
  cl Try.prog 89 #[t29] (fun t30 w =>
  s39_p5 K t0 t16 w) w) w) w) w) w)
  (s39_p5 K t0 t16 w)) w) w) w) w) w)) w) w
def s39_p6_den (K : Value → World → Prop) : (Nat → Value) → World → Prop := denL Try.prog [(cd (Try.f39.body.getD .skip) [0, 0]), (cd (Try.f39.body.getD .skip) [0, 1]), (cd (Try.f39.body.getD .skip) [1, 0]), (cd (Try.f39.body.getD .skip) [1, 1, 0, 0]), (cd (Try.f39.body.getD .skip) [1, 1, 0, 1, 0]), (cd (Try.f39.body.getD .skip) [1, 1, 0, 1, 1])] (s39_p5_den K) (fun i => (fun _ _ => False)) (s39_R K)
theorem s39_p6_ok (K : Value → World → Prop) (s : Nat → Value) (w : World) (h : s39_p6 K (s 0) (s 1) w) : Tr (s39_p6_den K s w) :=
  tr_simple (P := Try.prog) (codes := [(cd (Try.f39.body.getD .skip) [0, 0]), (cd (Try.f39.body.getD .skip) [0, 1]), (cd (Try.f39.body.getD .skip) [1, 0]), (cd (Try.f39.body.getD .skip) [1, 1, 0, 0]), (cd (Try.f39.body.getD .skip) [1, 1, 0, 1, 0]), (cd (Try.f39.body.getD .skip) [1, 1, 0, 1, 1])]) (N := (fun s w => s39_p5 K (s 0) (s 1) w)) (N' := (s39_p5_den K)) (X := (fun i => (fun _ _ => False))) (X' := (fun i => (fun _ _ => False))) (R := s39_R K) (s := s) (w := w) (p := s39_p6 K (s 0) (s 1) w) (q := s39_p6_den K s w) (fun s w h => s39_p5_ok K s w @h) (fun i => tr_id) (by kernel_rfl) (by kernel_rfl) @h
/-- the call, from the text -/
theorem c39 (t0 t1 : Value) {K : Value → World → Prop} {w : World} (h : s39_p6 K t0 t1 w) : cl Try.prog 39 #[t0, t1] K w :=
  calls_of_tr (c := (Try.f39.body.getD .skip)) (fn := Try.f39) (q := s39_p6_den K (st0 #[t0, t1]) w) Try.func39 (by kernel_rfl) (by kernel_rfl) (Nat.le_of_ble_eq_true (by kernel_rfl)) (by kernel_rfl) (by kernel_rfl) (s39_p6_ok K (st0 #[t0, t1]) w @h)

/-! ### function 40 : e2e.octets.AddOnes -/
def s40_R (K : Value → World → Prop) (s : Nat → Value) (w : World) : Prop := retv Try.prog s Try.f40.results.toList (fun vs => K (pack vs) w) w
def s40_p1 (K : Value → World → Prop) (t0 t5 : Value) (w : World) : Prop :=
  cl Try.prog 90 #[t0, t5] (fun t84 w =>
  K (.bool true) w) w
def s40_p1_den (K : Value → World → Prop) : (Nat → Value) → World → Prop := denL Try.prog [(cd (Try.f40.body.getD .skip) [1, 1, 1, 1, 1, 1, 0]), (cd (Try.f40.body.getD .skip) [1, 1, 1, 1, 1, 1, 1, 0]), (cd (Try.f40.body.getD .skip) [1, 1, 1, 1, 1, 1, 1, 1])] (fun _ _ => False) (fun i => (fun _ _ => False)) (s40_R K)
theorem s40_p1_ok (K : Value → World → Prop) (s : Nat → Value) (w : World) (h : s40_p1 K (s 0) (s 5) w) : Tr (s40_p1_den K s w) :=
  tr_simple (P := Try.prog) (codes := [(cd (Try.f40.body.getD .skip) [1, 1, 1, 1, 1, 1, 0]), (cd (Try.f40.body.getD .skip) [1, 1, 1, 1, 1, 1, 1, 0]), (cd (Try.f40.body.getD .skip) [1, 1, 1, 1, 1, 1, 1, 1])]) (N := (fun _ _ => False)) (N' := (fun _ _ => False)) (X := (fun i => (fun _ _ => False))) (X' := (fun i => (fun _ _ => False))) (R := s40_R K) (s := s) (w := w) (p := s40_p1 K (s 0) (s 5) w) (q := s40_p1_den K s w) tr_id (fun i => tr_id) (by kernel_rfl) (by kernel_rfl) @h
def s40_p2 (K : Value → World → Prop) (B1 : List Value → World → Prop) (t0 t1 t5 t6 : Value) (w : World) : Prop :=
  boI .sub t6 (.int .i64 1) (fun t58 w =>
  B1 [t0, t1, t5, t58] w) w
def s40_p2_den (K : Value → World → Prop) (M1 : (Nat → Value) → World → Prop) : (Nat → Value) → World → Prop := denL Try.prog [(cd (Try.f40.body.getD .skip) [1, 1, 1, 1, 1, 0, 0, 0, 1, 1])] M1 (fun i => (bif Nat.beq i 2 then (s40_p1_den K) else (fun _ _ => False))) (s40_R K)
theorem s40_p2_ok (K : Value → World → Prop) (B1 : List Value → World → Prop) (s : Nat → Value) (w : World) (h : s40_p2 K B1 (s 0) (s 1) (s 5) (s 6) w) : Tr (s40_p2_den K (fun s w => B1 [s 0, s 1, s 5, s 6] w) s w) :=
  tr_simple (P := Try.prog) (codes := [(cd (Try.f40.body.getD .skip) [1, 1, 1, 1, 1, 0, 0, 0, 1, 1])]) (N := (fun s w => B1 [s 0, s 1, s 5, s 6] w)) (N' := (fun s w => B1 [s 0, s 1, s 5, s 6] w)) (X := (fun i => (bif Nat.beq i 2 then (fun s w => s40_p1 K (s 0) (s 5) w) else (fun _ _ => False)))) (X' := (fun i => (bif Nat.beq i 2 then (s40_p1_den K) else (fun _ _ => False)))) (R := s40_R K) (s := s) (w := w) (p := s40_p2 K B1 (s 0) (s 1) (s 5) (s 6) w) (q := s40_p2_den K (fun s w => B1 [s 0, s 1, s 5, s 6] w) s w) tr_id (fun i => (tr_bif (fun s w h => s40_p1_ok K s w @h) tr_id)) (by kernel_rfl) (by kernel_rfl) @h
def s40_p3 (K : Value → World → Prop) (B1 : List Value → World → Prop) (t0 t1 t6 t11 : Value) (w : World) : Prop :=
  boI .sub t6 (.int .i64 1) (fun t76 w =>
  cvi .u8 t11 (fun t78 w =>
  ixs 1 t0 t76 (fun t79 w =>
  st1 t79 t78 (fun w =>
  boI .shr t11 (.int .u64 8) (fun t81 w =>
  s40_p2 K B1 t0 t1 t81 t6 w) w) w) w) w) w
def s40_p3_den (K : Value → World → Prop) (M1 : (Nat → Value) → World → Prop) : (Nat → Value) → World → Prop := denL Try.prog [(cd (Try.f40.body.getD .skip) [1, 1, 1, 1, 1, 0, 0, 0, 1, 0, 0, 1, 0]), (cd (Try.f40.body.getD .skip) [1, 1, 1, 1, 1, 0, 0, 0, 1, 0, 0, 1, 1])] (s40_p2_den K M1) (fun i => (bif Nat.beq i 3 then (s40_p2_den K M1) else (bif Nat.beq i 2 then (s40_p1_den K) else (fun _ _ => False)))) (s40_R K)
theorem s40_p3_ok (K : Value → World → Prop) (B1 : List Value → World → Prop) (s : Nat → Value) (w : World) (h : s40_p3 K B1 (s 0) (s 1) (s 6) (s 11) w) : Tr (s40_p3_den K (fun s w => B1 [s 0, s 1, s 5, s 6] w) s w) :=
  tr_simple (P := Try.prog) (codes := [(cd (Try.f40.body.getD .skip) [1, 1, 1, 1, 1, 0, 0, 0, 1, 0, 0, 1, 0]), (cd (Try.f40.body.getD .skip) [1, 1, 1, 1, 1, 0, 0, 0, 1, 0, 0, 1, 1])]) (N := (fun s w => s40_p2 K B1 (s 0) (s 1) (s 5) (s 6) w)) (N' := (s40_p2_den K (fun s w => B1 [s 0, s 1, s 5, s 6] w))) (X := (fun i => (bif Nat.beq i 3 then (fun s w => s40_p2 K B1 (s 0) (s 1) (s 5) (s 6) w) else (bif Nat.beq i 2 then (fun s w => s40_p1 K (s 0) (s 5) w) else (fun _ _ => False))))) (X' := (fun i => (bif Nat.beq i 3 then (s40_p2_den K (fun s w => B1 [s 0, s 1, s 5, s 6] w)) else (bif Nat.beq i 2 then (s40_p1_den K) else (fun _ _ => False))))) (R := s40_R K) (s := s) (w := w) (p := s40_p3 K B1 (s 0) (s 1) (s 6) (s 11) w) (q := s40_p3_den K (fun s w => B1 [s 0, s 1, s 5, s 6] w) s w) (fun s w h => s40_p2_ok K B1 s w @h) (fun i => (tr_bif (fun s w h => s40_p2_ok K B1 s w @h) (tr_bif (fun s w h => s40_p1_ok K s w @h) tr_id))) (by kernel_rfl) (by kernel_rfl) @h
def s40_p4_d (K : Value → World → Prop) (B1 : List Value → World → Prop) (t0 t1 t5 t6 : Value) (w0 w : World) : Prop :=
  boI .sub t6 (.int .i64 1) (fun t61 _ =>
  ixs 1 t0 t61 (fun t62 _ =>
  ld1 t62 (fun t63 _ =>
  cvi .u64 t63 (fun t64 _ =>
  boI .sub t6 (.int .i64 1) (fun t67 _ =>
  ixs 1 t1 t67 (fun t68 _ =>
  ld1 t68 (fun t69 _ =>
  cvi .u64 t69 (fun t70 _ =>
  boI .add t64 t70 (fun t71 _ =>
  boI .add t71 t5 (fun t73 _ =>
  s40_p3 K B1 t0 t1 t6 t73 w) w0) w0) w0) w0) w0) w0) w0) w0) w0) w0
def s40_p4 (K : Value → World → Prop) (B1 : List Value → World → Prop) (t0 t1 t5 t6 : Value) (w : World) : Prop := s40_p4_d K B1 t0 t1 t5 t6 (drw w) (drw w)
def s40_p4_den (K : Value → World → Prop) (M1 : (Nat → Value) → World → Prop) : (Nat → Value) → World → Prop := denL Try.prog [(cd (Try.f40.body.getD .skip) [1, 1, 1, 1, 1, 0, 0, 0, 1, 0, 0, 0])] (s40_p3_den K M1) (fun i => (bif Nat.beq i 3 then (s40_p2_den K M1) else (bif Nat.beq i 2 then (s40_p1_den K) else (fun _ _ => False)))) (s40_R K)
theorem s40_p4_ok (K : Value → World → Prop) (B1 : List Value → World → Prop) (s : Nat → Value) (w : World) (h : s40_p4 K B1 (s 0) (s 1) (s 5) (s 6) w) : Tr (s40_p4_den K (fun s w => B1 [s 0, s 1, s 5, s 6] w) s w) :=
  tr_draw (P := Try.prog) (ops := (ro (cd (Try.f40.body.getD .skip) [1, 1, 1, 1, 1, 0, 0, 0, 1, 0, 0, 0]))) (ms := [0, 0, 2, 7, 15, 31, 0, 0, 128, 448, 960, 1984, 4095, 0, 16383, 32767]) (cs := [0, 1, 2, 3, 4, 5, 6, 7, 8, 9, 10, 11, 12, 13, 14, 15]) (N := (fun s w => s40_p3 K B1 (s 0) (s 1) (s 6) (s 11) w)) (N' := (s40_p3_den K (fun s w => B1 [s 0, s 1, s 5, s 6] w))) (s := s) (w := w) (p := s40_p4 K B1 (s 0) (s 1) (s 5) (s 6) w) (q := s40_p4_den K (fun s w => B1 [s 0, s 1, s 5, s 6] w) s w) (by kernel_rfl) (by kernel_rfl) (fun s w h => s40_p3_ok K B1 s w @h) (by kernel_rfl) (by kernel_rfl) @h
def s40_p5 (K : Value → World → Prop) (B1 : List Value → World → Prop) (t0 t1 t5 t6 : Value) (w : World) : Prop :=
  boI .gtr t6 (.int .i64 0) (fun t56 w =>
  ifb t56
  (s40_p4 K B1 t0 t1 t5 t6 w)
  (s40_p1 K t0 t5 w)) w
def s40_p5_den (K : Value → World → Prop) (M1 : (Nat → Value) → World → Prop) : (Nat → Value) → World → Prop := denL Try.prog [(cd (Try.f40.body.getD .skip) [1, 1, 1, 1, 1, 0, 0, 0, 0, 0]), (cd (Try.f40.body.getD .skip) [1, 1, 1, 1, 1, 0, 0, 0, 0, 1])] (s40_p4_den K M1) (fun i => (bif Nat.beq i 2 then (s40_p1_den K) else (fun _ _ => False))) (s40_R K)
theorem s40_p5_ok (K : Value → World → Prop) (B1 : List Value → World → Prop) (s : Nat → Value) (w : World) (h : s40_p5 K B1 (s 0) (s 1) (s 5) (s 6) w) : Tr (s40_p5_den K (fun s w => B1 [s 0, s 1, s 5, s 6] w) s w) :=
  tr_simple (P := Try.prog) (codes := [(cd (Try.f40.body.getD .skip) [1, 1, 1, 1, 1, 0, 0, 0, 0, 0]), (cd (Try.f40.body.getD .skip) [1, 1, 1, 1, 1, 0, 0, 0, 0, 1])]) (N := (fun s w => s40_p4 K B1 (s 0) (s 1) (s 5) (s 6) w)) (N' := (s40_p4_den K (fun s w => B1 [s 0, s 1, s 5, s 6] w))) (X := (fun i => (bif Nat.beq i 2 then (fun s w => s40_p1 K (s 0) (s 5) w) else (fun _ _ => False)))) (X' := (fun i => (bif Nat.beq i 2 then (s40_p1_den K) else (fun _ _ => False)))) (R := s40_R K) (s := s) (w := w) (p := s40_p5 K B1 (s 0) (s 1) (s 5) (s 6) w) (q := s40_p5_den K (fun s w => B1 [s 0, s 1, s 5, s 6] w) s w) (fun s w h => s40_p4_ok K B1 s w @h) (fun i => (tr_bif (fun s w h => s40_p1_ok K s w @h) tr_id)) (by kernel_rfl) (by kernel_rfl) @h
def s40_p6_F (K : Value → World → Prop) (B1 : List Value → World → Prop) (l : List Value) (w : World) : Prop :=
  match l with
  | [t0, t1, t5, t6] => s40_p5 K B1 t0 t1 t5 t6 w
  | _ => False
theorem s40_p6_Fe {K : Value → World → Prop} {B1 : List Value → World → Prop} {t0 t1 t5 t6 : Value} {w : World} : s40_p6_F K B1 [t0, t1, t5, t6] w = s40_p5 K B1 t0 t1 t5 t6 w := by kernel_rfl
def s40_p6 (K : Value → World → Prop) (t0 t1 t5 t6 : Value) (w : World) : Prop :=
  LoopL (s40_p6_F K) [t0, t1, t5, t6] w
def s40_p6_den (K : Value → World → Prop) : (Nat → Value) → World → Prop := fun s w => LoopP (fun M1 s w => s40_p5_den K M1 s w) s w
theorem s40_p6_ok (K : Value → World → Prop) (s : Nat → Value) (w : World) (h : s40_p6 K (s 0) (s 1) (s 5) (s 6) w) : Tr (s40_p6_den K s w) :=
  tr_loop (G := fun N' s w => s40_p5_den K N' s w) (F := s40_p6_F K) (sel := fun s => [s 0, s 1, s 5, s 6]) (s := s) (w := w) (p := s40_p6 K (s 0) (s 1) (s 5) (s 6) w) (q := s40_p6_den K s w) (fun B s w h => s40_p5_ok K B s w @h) (by kernel_rfl) (by kernel_rfl) @h
def s40_p7 (K : Value → World → Prop) (B1 : List Value → World → Prop) (t0 t1 t5 t6 : Value) (w : World) : Prop :=
  boI .sub t6 (.int .i64 8) (fun t22 w =>
  B1 [t0, t1, t5, t22] w) w
def s40_p7_den (K : Value → World → Prop) (M1 : (Nat → Value) → World → Prop) : (Nat → Value) → World → Prop := denL Try.prog [(cd (Try.f40.body.getD .skip) [1, 1, 1, 1, 0, 0, 0, 1, 1])] M1 (fun i => (bif Nat.beq i 0 then (s40_p6_den K) else (fun _ _ => False))) (s40_R K)
theorem s40_p7_ok (K : Value → World → Prop) (B1 : List Value → World → Prop) (s : Nat → Value) (w : World) (h : s40_p7 K B1 (s 0) (s 1) (s 5) (s 6) w) : Tr (s40_p7_den K (fun s w => B1 [s 0, s 1, s 5, s 6] w) s w) :=
  tr_simple (P := Try.prog) (codes := [(cd (Try.f40.body.getD .skip) [1, 1, 1, 1, 0, 0, 0, 1, 1])]) (N := (fun s w => B1 [s 0, s 1, s 5, s 6] w)) (N' := (fun s w => B1 [s 0, s 1, s 5, s 6] w)) (X := (fun i => (bif Nat.beq i 0 then (fun s w => s40_p6 K (s 0) (s 1) (s 5) (s 6) w) else (fun _ _ => False)))) (X' := (fun i => (bif Nat.beq i 0 then (s40_p6_den K) else (fun _ _ => False)))) (R := s40_R K) (s := s) (w := w) (p := s40_p7 K B1 (s 0) (s 1) (s 5) (s 6) w) (q := s40_p7_den K (fun s w => B1 [s 0, s 1, s 5, s 6] w) s w) tr_id (fun i => (tr_bif (fun s w h => s40_p6_ok K s w @h) tr_id)) (by kernel_rfl) (by kernel_rfl) @h
def s40_p8 (K : Value → World → Prop) (B1 : List Value → World → Prop) (t0 t1 t5 t6 t7 t8 : Value) (w : World) : Prop :=
  boI .add t7 t8 (fun t35 w =>
  boI .lss t35 t7 (fun t38 w =>
  boI .add t35 t5 (fun t41 w =>
  gd t38 false (fun K w => K t41 w) (fun t44 w =>
  gd t38 false (fun K w => K t5 w) (fun t45 w =>
  gd t38 false (boI .lss t44 t45) (fun t46 w =>
  pk t38 (.bool true) t46 (fun t47 w =>
  boI .sub t6 (.int .i64 8) (fun t50 w =>
  sls 1 t0 (some t50) none (fun t51 w =>
  cl Try.prog 81 #[t51, t41] (fun t53 w =>
  ifb t47
  (s40_p7 K B1 t0 t1 (.int .u64 1) t6 w)
  (s40_p7 K B1 t0 t1 (.int .u64 0) t6 w)) w) w) w) w) w) w) w) w) w) w
def s40_p8_den (K : Value → World → Prop) (M1 : (Nat → Value) → World → Prop) : (Nat → Value) → World → Prop := denL Try.prog [(cd (Try.f40.body.getD .skip) [1, 1, 1, 1, 0, 0, 0, 1, 0, 0, 1, 0]), (cd (Try.f40.body.getD .skip) [1, 1, 1, 1, 0, 0, 0, 1, 0, 0, 1, 1, 0]), (cd (Try.f40.body.getD .skip) [1, 1, 1, 1, 0, 0, 0, 1, 0, 0, 1, 1, 1, 0]), (cd (Try.f40.body.getD .skip) [1, 1, 1, 1, 0, 0, 0, 1, 0, 0, 1, 1, 1, 1, 0]), (cd (Try.f40.body.getD .skip) [1, 1, 1, 1, 0, 0, 0, 1, 0, 0, 1, 1, 1, 1, 1, 0]), (cd (Try.f40.body.getD .skip) [1, 1, 1, 1, 0, 0, 0, 1, 0, 0, 1, 1, 1, 1, 1, 1, 0]), (cd (Try.f40.body.getD .skip) [1, 1, 1, 1, 0, 0, 0, 1, 0, 0, 1, 1, 1, 1, 1, 1, 1, 0]), (cd (Try.f40.body.getD .skip) [1, 1, 1, 1, 0, 0, 0, 1, 0, 0, 1, 1, 1, 1, 1, 1, 1, 1])] (s40_p7_den K M1) (fun i => (bif Nat.beq i 1 then (s40_p7_den K M1) else (bif Nat.beq i 0 then (s40_p6_den K) else (fun _ _ => False)))) (s40_R K)
theorem s40_p8_ok (K : Value → World → Prop) (B1 : List Value → World → Prop) (s : Nat → Value) (w : World) (h : s40_p8 K B1 (s 0) (s 1) (s 5) (s 6) (s 7) (s 8) w) : Tr (s40_p8_den K (fun s w => B1 [s 0, s 1, s 5, s 6] w) s w) :=
  tr_simple (P := Try.prog) (codes := [(cd (Try.f40.body.getD .skip) [1, 1, 1, 1, 0, 0, 0, 1, 0, 0, 1, 0]), (cd (Try.f40.body.getD .skip) [1, 1, 1, 1, 0, 0, 0, 1, 0, 0, 1, 1, 0]), (cd (Try.f40.body.getD .skip) [1, 1, 1, 1, 0, 0, 0, 1, 0, 0, 1, 1, 1, 0]), (cd (Try.f40.body.getD .skip) [1, 1, 1, 1, 0, 0, 0, 1, 0, 0, 1, 1, 1, 1, 0]), (cd (Try.f40.body.getD .skip) [1, 1, 1, 1, 0, 0, 0, 1, 0, 0, 1, 1, 1, 1, 1, 0]), (cd (Try.f40.body.getD .skip) [1, 1, 1, 1, 0, 0, 0, 1, 0, 0, 1, 1, 1, 1, 1, 1, 0]), (cd (Try.f40.body.getD .skip) [1, 1, 1, 1, 0, 0, 0, 1, 0, 0, 1, 1, 1, 1, 1, 1, 1, 0]), (cd (Try.f40.body.getD .skip) [1, 1, 1, 1, 0, 0, 0, 1, 0, 0, 1, 1, 1, 1, 1, 1, 1, 1])]) (N := (fun s w => s40_p7 K B1 (s 0) (s 1) (s 5) (s 6) w)) (N' := (s40_p7_den K (fun s w => B1 [s 0, s 1, s 5, s 6] w))) (X := (fun i => (bif Nat.beq i 1 then (fun s w => s40_p7 K B1 (s 0) (s 1) (s 5) (s 6) w) else (bif Nat.beq i 0 then (fun s w => s40_p6 K (s 0) (s 1) (s 5) (s 6) w) else (fun _ _ => False))))) (X' := (fun i => (bif Nat.beq i 1 then (s40_p7_den K (fun s w => B1 [s 0, s 1, s 5, s 6] w)) else (bif Nat.beq i 0 then (s40_p6_den K) else (fun _ _ => False))))) (R := s40_R K) (s := s) (w := w) (p := s40_p8 K B1 (s 0) (s 1) (s 5) (s 6) (s 7) (s 8) w) (q := s40_p8_den K (fun s w => B1 [s 0, s 1, s 5, s 6] w) s w) (fun s w h => s40_p7_ok K B1 s w @h) (fun i => (tr_bif (fun s w h => s40_p7_ok K B1 s w @h) (tr_bif (fun s w h => s40_p6_ok K s w @h) tr_id))) (by kernel_rfl) (by kernel_rfl) @h
def s40_p9_d (K : Value → World → Prop) (B1 : List Value → World → Prop) (t0 t1 t5 t6 : Value) (w0 w : World) : Prop :=
  boI .sub t6 (.int .i64 8) (fun t25 _ =>
  sls 1 t0 (some t25) none (fun t26 _ =>
  boI .sub t6 (.int .i64 8) (fun t30 _ =>
  sls 1 t1 (some t30) none (fun t31 _ =>
  cl Try.prog 72 #[t26] (fun t27 w =>
  Below w0.heap.size w0 w ∧
  cl Try.prog 72 #[t31] (fun t32 w =>
  s40_p8 K B1 t0 t1 t5 t6 t27 t32 w) w) w) w0) w0) w0) w0
def s40_p9 (K : Value → World → Prop) (B1 : List Value → World → Prop) (t0 t1 t5 t6 : Value) (w : World) : Prop := s40_p9_d K B1 t0 t1 t5 t6 (drw w) (drw w)
def s40_p9_den (K : Value → World → Prop) (M1 : (Nat → Value) → World → Prop) : (Nat → Value) → World → Prop := denL Try.prog [(cd (Try.f40.body.getD .skip) [1, 1, 1, 1, 0, 0, 0, 1, 0, 0, 0])] (s40_p8_den K M1) (fun i => (bif Nat.beq i 1 then (s40_p7_den K M1) else (bif Nat.beq i 0 then (s40_p6_den K) else (fun _ _ => False)))) (s40_R K)
theorem s40_p9_ok (K : Value → World → Prop) (B1 : List Value → World → Prop) (s : Nat → Value) (w : World) (h : s40_p9 K B1 (s 0) (s 1) (s 5) (s 6) w) : Tr (s40_p9_den K (fun s w => B1 [s 0, s 1, s 5, s 6] w) s w) :=
  tr_draw (P := Try.prog) (ops := (ro (cd (Try.f40.body.getD .skip) [1, 1, 1, 1, 0, 0, 0, 1, 0, 0, 0]))) (ms := [0, 0, 2, 7, 15, 0, 0, 64, 224, 511, 1023, 2047]) (cs := [0, 1, 2, 3, 5, 6, 7, 8]) (N := (fun s w => s40_p8 K B1 (s 0) (s 1) (s 5) (s 6) (s 7) (s 8) w)) (N' := (s40_p8_den K (fun s w => B1 [s 0, s 1, s 5, s 6] w))) (s := s) (w := w) (p := s40_p9 K B1 (s 0) (s 1) (s 5) (s 6) w) (q := s40_p9_den K (fun s w => B1 [s 0, s 1, s 5, s 6] w) s w) (by kernel_rfl) (by kernel_rfl) (fun s w h => s40_p8_ok K B1 s w @h) (by kernel_rfl) (by kernel_rfl) @h
def s40_p10 (K : Value → World → Prop) (B1 : List Value → World → Prop) (t0 t1 t5 t6 : Value) (w : World) : Prop :=
  boI .geq t6 (.int .i64 8) (fun t20 w =>
  ifb t20
  (s40_p9 K B1 t0 t1 t5 t6 w)
  (s40_p6 K t0 t1 t5 t6 w)) w
def s40_p10_den (K : Value → World → Prop) (M1 : (Nat → Value) → World → Prop) : (Nat → Value) → World → Prop := denL Try.prog [(cd (Try.f40.body.getD .skip) [1, 1, 1, 1, 0, 0, 0, 0, 0]), (cd (Try.f40.body.getD .skip) [1, 1, 1, 1, 0, 0, 0, 0, 1])] (s40_p9_den K M1) (fun i => (bif Nat.beq i 0 then (s40_p6_den K) else (fun _ _ => False))) (s40_R K)
theorem s40_p10_ok (K : Value → World → Prop) (B1 : List Value → World → Prop) (s : Nat → Value) (w : World) (h : s40_p10 K B1 (s 0) (s 1) (s 5) (s 6) w) : Tr (s40_p10_den K (fun s w => B1 [s 0, s 1, s 5, s 6] w) s w) :=
  tr_simple (P := Try.prog) (codes := [(cd (Try.f40.body.getD .skip) [1, 1, 1, 1, 0, 0, 0, 0, 0]), (cd (Try.f40.body.getD .skip) [1, 1, 1, 1, 0, 0, 0, 0, 1])]) (N := (fun s w => s40_p9 K B1 (s 0) (s 1) (s 5) (s 6) w)) (N' := (s40_p9_den K (fun s w => B1 [s 0, s 1, s 5, s 6] w))) (X := (fun i => (bif Nat.beq i 0 then (fun s w => s40_p6 K (s 0) (s 1) (s 5) (s 6) w) else (fun _ _ => False)))) (X' := (fun i => (bif Nat.beq i 0 then (s40_p6_den K) else (fun _ _ => False)))) (R := s40_R K) (s := s) (w := w) (p := s40_p10 K B1 (s 0) (s 1) (s 5) (s 6) w) (q := s40_p10_den K (fun s w => B1 [s 0, s 1, s 5, s 6] w) s w) (fun s w h => s40_p9_ok K B1 s w @h) (fun i => (tr_bif (fun s w h => s40_p6_ok K s w @h) tr_id)) (by kernel_rfl) (by kernel_rfl) @h
def s40_p11_F (K : Value → World → Prop) (B1 : List Value → World → Prop) (l : List Value) (w : World) : Prop :=
  match l with
  | [t0, t1, t5, t6] => s40_p10 K B1 t0 t1 t5 t6 w
  | _ => False
theorem s40_p11_Fe {K : Value → World → Prop} {B1 : List Value → World → Prop} {t0 t1 t5 t6 : Value} {w : World} : s40_p11_F K B1 [t0, t1, t5, t6] w = s40_p10 K B1 t0 t1 t5 t6 w := by kernel_rfl
def s40_p11 (K : Value → World → Prop) (t0 t1 t5 t6 : Value) (w : World) : Prop :=
  LoopL (s40_p11_F K) [t0, t1, t5, t6] w
def s40_p11_den (K : Value → World → Prop) : (Nat → Value) → World → Prop := fun s w => LoopP (fun M1 s w => s40_p10_den K M1 s w) s w
theorem s40_p11_ok (K : Value → World → Prop) (s : Nat → Value) (w : World) (h : s40_p11 K (s 0) (s 1) (s 5) (s 6) w) : Tr (s40_p11_den K s w) :=
  tr_loop (G := fun N' s w => s40_p10_den K N' s w) (F := s40_p11_F K) (sel := fun s => [s 0, s 1, s 5, s 6]) (s := s) (w := w) (p := s40_p11 K (s 0) (s 1) (s 5) (s 6) w) (q := s40_p11_den K s w) (fun B s w h => s40_p10_ok K B s w @h) (by kernel_rfl) (by kernel_rfl) @h
def s40_p12 (K : Value → World → Prop) (t0 t1 : Value) (w : World) : Prop :=
  lnS t0 (fun t13 w =>
  lnS t1 (fun t15 w =>
  boI .neq t13 t15 (fun t16 w =>
  ifb t16
  (K (.bool false) w)
  (lnS t0 (fun t18 w =>
  s40_p11 K t0 t1 (.int .u64 0) t18 w) w)) w) w) w
def s40_p12_den (K : Value → World → Prop) : (Nat → Value) → World → Prop := denL Try.prog [(cd (Try.f40.body.getD .skip) [0]), (cd (Try.f40.body.getD .skip) [1, 0, 0]), (cd (Try.f40.body.getD .skip) [1, 0, 1]), (cd (Try.f40.body.getD .skip) [1, 1, 0]), (cd (Try.f40.body.getD .skip) [1, 1, 1, 0])] (s40_p11_den K) (fun i => (fun _ _ => False)) (s40_R K)
theorem s40_p12_ok (K : Value → World → Prop) (s : Nat → Value) (w : World) (h : s40_p12 K (s 0) (s 1) w) : Tr (s40_p12_den K s w) :=
  tr_simple (P := Try.prog) (codes := [(cd (Try.f40.body.getD .skip) [0]), (cd (Try.f40.body.getD .skip) [1, 0, 0]), (cd (Try.f40.body.getD .skip) [1, 0, 1]), (cd (Try.f40.body.getD .skip) [1, 1, 0]), (cd (Try.f40.body.getD .skip) [1, 1, 1, 0])]) (N := (fun s w => s40_p11 K (s 0) (s 1) (s 5) (s 6) w)) (N' := (s40_p11_den K)) (X := (fun i => (fun _ _ => False))) (X' := (fun i => (fun _ _ => False))) (R := s40_R K) (s := s) (w := w) (p := s40_p12 K (s 0) (s 1) w) (q := s40_p12_den K s w) (fun s w h => s40_p11_ok K s w @h) (fun i => tr_id) (by kernel_rfl) (by kernel_rfl) @h
/-- the call, from the text -/
theorem c40 (t0 t1 : Value) {K : Value → World → Prop} {w : World} (h : s40_p12 K t0 t1 w) : cl Try.prog 40 #[t0, t1] K w :=
  calls_of_tr (c := (Try.f40.body.getD .skip)) (fn := Try.f40) (q := s40_p12_den K (st0 #[t0, t1]) w) Try.func40 (by kernel_rfl) (by kernel_rfl) (Nat.le_of_ble_eq_true (by kernel_rfl)) (by kernel_rfl) (by kernel_rfl) (s40_p12_ok K (st0 #[t0, t1]) w @h)

/-! ### function 41 : e2e.octets.FoldOnes -/
def s41_R (K : Value → World → Prop) (s : Nat → Value) (w : World) : Prop := retv Try.prog s Try.f41.results.toList (fun vs => K (pack vs) w) w
def s41_p1 (K : Value → World → Prop) (t0 t6 : Value) (w : World) : Prop :=
  cl Try.prog 90 #[t0, t6] (fun t62 w =>
  K (.bool true) w) w
def s41_p1_den (K : Value → World → Prop) : (Nat → Value) → World → Prop := denL Try.prog [(cd (Try.f41.body.getD .skip) [1, 1, 1, 1, 1, 0]), (cd (Try.f41.body.getD .skip) [1, 1, 1, 1, 1, 1, 0]), (cd (Try.f41.body.getD .skip) [1, 1, 1, 1, 1, 1, 1])] (fun _ _ => False) (fun i => (fun _ _ => False)) (s41_R K)
theorem s41_p1_ok (K : Value → World → Prop) (s : Nat → Value) (w : World) (h : s41_p1 K (s 0) (s 6) w) : Tr (s41_p1_den K s w) :=
  tr_simple (P := Try.prog) (codes := [(cd (Try.f41.body.getD .skip) [1, 1, 1, 1, 1, 0]), (cd (Try.f41.body.getD .skip) [1, 1, 1, 1, 1, 1, 0]), (cd (Try.f41.body.getD .skip) [1, 1, 1, 1, 1, 1, 1])]) (N := (fun _ _ => False)) (N' := (fun _ _ => False)) (X := (fun i => (fun _ _ => False))) (X' := (fun i => (fun _ _ => False))) (R := s41_R K) (s := s) (w := w) (p := s41_p1 K (s 0) (s 6) w) (q := s41_p1_den K s w) tr_id (fun i => tr_id) (by kernel_rfl) (by kernel_rfl) @h
def s41_p2 (K : Value → World → Prop) (B1 : List Value → World → Prop) (t0 t1 t5 t6 t7 : Value) (w : World) : Prop :=
  boI .sub t7 (.int .i64 1) (fun t37 w =>
  B1 [t0, t1, t5, t6, t37] w) w
def s41_p2_den (K : Value → World → Prop) (M1 : (Nat → Value) → World → Prop) : (Nat → Value) → World → Prop := denL Try.prog [(cd (Try.f41.body.getD .skip) [1, 1, 1, 1, 0, 1, 0, 0, 1, 1])] M1 (fun i => (bif Nat.beq i 0 then (s41_p1_den K) else (fun _ _ => False))) (s41_R K)
theorem s41_p2_ok (K : Value → World → Prop) (B1 : List Value → World → Prop) (s : Nat → Value) (w : World) (h : s41_p2 K B1 (s 0) (s 1) (s 5) (s 6) (s 7) w) : Tr (s41_p2_den K (fun s w => B1 [s 0, s 1, s 5, s 6, s 7] w) s w) :=
  tr_simple (P := Try.prog) (codes := [(cd (Try.f41.body.getD .skip) [1, 1, 1, 1, 0, 1, 0, 0, 1, 1])]) (N := (fun s w => B1 [s 0, s 1, s 5, s 6, s 7] w)) (N' := (fun s w => B1 [s 0, s 1, s 5, s 6, s 7] w)) (X := (fun i => (bif Nat.beq i 0 then (fun s w => s41_p1 K (s 0) (s 6) w) else (fun _ _ => False)))) (X' := (fun i => (bif Nat.beq i 0 then (s41_p1_den K) else (fun _ _ => False)))) (R := s41_R K) (s := s) (w := w) (p := s41_p2 K B1 (s 0) (s 1) (s 5) (s 6) (s 7) w) (q := s41_p2_den K (fun s w => B1 [s 0, s 1, s 5, s 6, s 7] w) s w) tr_id (fun i => (tr_bif (fun s w h => s41_p1_ok K s w @h) tr_id)) (by kernel_rfl) (by kernel_rfl) @h
def s41_p3 (K : Value → World → Prop) (B1 : List Value → World → Prop) (t0 t1 t5 t6 t7 : Value) (w : World) : Prop :=
  cvi .u8 t6 (fun t56 w =>
  ixs 1 t0 t7 (fun t57 w =>
  st1 t57 t56 (fun w =>
  boI .shr t6 (.int .u64 8) (fun t59 w =>
  s41_p2 K B1 t0 t1 t5 t59 t7 w) w) w) w) w
def s41_p3_den (K : Value → World → Prop) (M1 : (Nat → Value) → World → Prop) : (Nat → Value) → World → Prop := denL Try.prog [(cd (Try.f41.body.getD .skip) [1, 1, 1, 1, 0, 1, 0, 0, 1, 0, 0, 1, 0]), (cd (Try.f41.body.getD .skip) [1, 1, 1, 1, 0, 1, 0, 0, 1, 0, 0, 1, 1])] (s41_p2_den K M1) (fun i => (bif Nat.beq i 1 then (s41_p2_den K M1) else (bif Nat.beq i 0 then (s41_p1_den K) else (fun _ _ => False)))) (s41_R K)
theorem s41_p3_ok (K : Value → World → Prop) (B1 : List Value → World → Prop) (s : Nat → Value) (w : World) (h : s41_p3 K B1 (s 0) (s 1) (s 5) (s 6) (s 7) w) : Tr (s41_p3_den K (fun s w => B1 [s 0, s 1, s 5, s 6, s 7] w) s w) :=
  tr_simple (P := Try.prog) (codes := [(cd (Try.f41.body.getD .skip) [1, 1, 1, 1, 0, 1, 0, 0, 1, 0, 0, 1, 0]), (cd (Try.f41.body.getD .skip) [1, 1, 1, 1, 0, 1, 0, 0, 1, 0, 0, 1, 1])]) (N := (fun s w => s41_p2 K B1 (s 0) (s 1) (s 5) (s 6) (s 7) w)) (N' := (s41_p2_den K (fun s w => B1 [s 0, s 1, s 5, s 6, s 7] w))) (X := (fun i => (bif Nat.beq i 1 then (fun s w => s41_p2 K B1 (s 0) (s 1) (s 5) (s 6) (s 7) w) else (bif Nat.beq i 0 then (fun s w => s41_p1 K (s 0) (s 6) w) else (fun _ _ => False))))) (X' := (fun i => (bif Nat.beq i 1 then (s41_p2_den K (fun s w => B1 [s 0, s 1, s 5, s 6, s 7] w)) else (bif Nat.beq i 0 then (s41_p1_den K) else (fun _ _ => False))))) (R := s41_R K) (s := s) (w := w) (p := s41_p3 K B1 (s 0) (s 1) (s 5) (s 6) (s 7) w) (q := s41_p3_den K (fun s w => B1 [s 0, s 1, s 5, s 6, s 7] w) s w) (fun s w h => s41_p2_ok K B1 s w @h) (fun i => (tr_bif (fun s w h => s41_p2_ok K B1 s w @h) (tr_bif (fun s w h => s41_p1_ok K s w @h) tr_id))) (by kernel_rfl) (by kernel_rfl) @h
def s41_p4 (K : Value → World → Prop) (B1 : List Value → World → Prop) (B2 : List Value → World → Prop) (t0 t1 t5 t6 t7 t8 : Value) (w : World) : Prop :=
  lnS t1 (fun t41 w =>
  boI .lss t8 t41 (fun t42 w =>
  ifb t42
  (ixs 1 t1 t8 (fun t49 w =>
  ld1 t49 (fun t50 w =>
  cvi .u64 t50 (fun t51 w =>
  boI .add t6 t51 (fun t52 w =>
  boI .add t8 t5 (fun t45 w =>
  B2 [t0, t1, t5, t52, t7, t45] w) w) w) w) w) w)
  (s41_p3 K B1 t0 t1 t5 t6 t7 w)) w) w
def s41_p4_den (K : Value → World → Prop) (M1 : (Nat → Value) → World → Prop) (M2 : (Nat → Value) → World → Prop) : (Nat → Value) → World → Prop := denL Try.prog [(cd (Try.f41.body.getD .skip) [1, 1, 1, 1, 0, 1, 0, 0, 1, 0, 0, 0, 1, 0, 0, 0, 0]), (cd (Try.f41.body.getD .skip) [1, 1, 1, 1, 0, 1, 0, 0, 1, 0, 0, 0, 1, 0, 0, 0, 1]), (cd (Try.f41.body.getD .skip) [1, 1, 1, 1, 0, 1, 0, 0, 1, 0, 0, 0, 1, 0, 0, 1, 0]), (cd (Try.f41.body.getD .skip) [1, 1, 1, 1, 0, 1, 0, 0, 1, 0, 0, 0, 1, 0, 0, 1, 1])] M2 (fun i => (bif Nat.beq i 2 then (s41_p3_den K M1) else (bif Nat.beq i 1 then (s41_p2_den K M1) else (bif Nat.beq i 0 then (s41_p1_den K) else (fun _ _ => False))))) (s41_R K)
theorem s41_p4_ok (K : Value → World → Prop) (B1 : List Value → World → Prop) (B2 : List Value → World → Prop) (s : Nat → Value) (w : World) (h : s41_p4 K B1 B2 (s 0) (s 1) (s 5) (s 6) (s 7) (s 8) w) : Tr (s41_p4_den K (fun s w => B1 [s 0, s 1, s 5, s 6, s 7] w) (fun s w => B2 [s 0, s 1, s 5, s 6, s 7, s 8] w) s w) :=
  tr_simple (P := Try.prog) (codes := [(cd (Try.f41.body.getD .skip) [1, 1, 1, 1, 0, 1, 0, 0, 1, 0, 0, 0, 1, 0, 0, 0, 0]), (cd (Try.f41.body.getD .skip) [1, 1, 1, 1, 0, 1, 0, 0, 1, 0, 0, 0, 1, 0, 0, 0, 1]), (cd (Try.f41.body.getD .skip) [1, 1, 1, 1, 0, 1, 0, 0, 1, 0, 0, 0, 1, 0, 0, 1, 0]), (cd (Try.f41.body.getD .skip) [1, 1, 1, 1, 0, 1, 0, 0, 1, 0, 0, 0, 1, 0, 0, 1, 1])]) (N := (fun s w => B2 [s 0, s 1, s 5, s 6, s 7, s 8] w)) (N' := (fun s w => B2 [s 0, s 1, s 5, s 6, s 7, s 8] w)) (X := (fun i => (bif Nat.beq i 2 then (fun s w => s41_p3 K B1 (s 0) (s 1) (s 5) (s 6) (s 7) w) else (bif Nat.beq i 1 then (fun s w => s41_p2 K B1 (s 0) (s 1) (s 5) (s 6) (s 7) w) else (bif Nat.beq i 0 then (fun s w => s41_p1 K (s 0) (s 6) w) else (fun _ _ => False)))))) (X' := (fun i => (bif Nat.beq i 2 then (s41_p3_den K (fun s w => B1 [s 0, s 1, s 5, s 6, s 7] w)) else (bif Nat.beq i 1 then (s41_p2_den K (fun s w => B1 [s 0, s 1, s 5, s 6, s 7] w)) else (bif Nat.beq i 0 then (s41_p1_den K) else (fun _ _ => False)))))) (R := s41_R K) (s := s) (w := w) (p := s41_p4 K B1 B2 (s 0) (s 1) (s 5) (s 6) (s 7) (s 8) w) (q := s41_p4_den K (fun s w => B1 [s 0, s 1, s 5, s 6, s 7] w) (fun s w => B2 [s 0, s 1, s 5, s 6, s 7, s 8] w) s w) tr_id (fun i => (tr_bif (fun s w h => s41_p3_ok K B1 s w @h) (tr_bif (fun s w h => s41_p2_ok K B1 s w @h) (tr_bif (fun s w h => s41_p1_ok K s w @h) tr_id)))) (by kernel_rfl) (by kernel_rfl) @h
def s41_p5_F (K : Value → World → Prop) (B1 : List Value → World → Prop) (B2 : List Value → World → Prop) (l : List Value) (w : World) : Prop :=
  match l with
  | [t0, t1, t5, t6, t7, t8] => s41_p4 K B1 B2 t0 t1 t5 t6 t7 t8 w
  | _ => False
theorem s41_p5_Fe {K : Value → World → Prop} {B1 : List Value → World → Prop} {B2 : List Value → World → Prop} {t0 t1 t5 t6 t7 t8 : Value} {w : World} : s41_p5_F K B1 B2 [t0, t1, t5, t6, t7, t8] w = s41_p4 K B1 B2 t0 t1 t5 t6 t7 t8 w := by kernel_rfl
def s41_p5 (K : Value → World → Prop) (B1 : List Value → World → Prop) (t0 t1 t5 t6 t7 t8 : Value) (w : World) : Prop :=
  LoopL (s41_p5_F K B1) [t0, t1, t5, t6, t7, t8] w
def s41_p5_den (K : Value → World → Prop) (M1 : (Nat → Value) → World → Prop) : (Nat → Value) → World → Prop := fun s w => LoopP (fun M2 s w => s41_p4_den K M1 M2 s w) s w
theorem s41_p5_ok (K : Value → World → Prop) (B1 : List Value → World → Prop) (s : Nat → Value) (w : World) (h : s41_p5 K B1 (s 0) (s 1) (s 5) (s 6) (s 7) (s 8) w) : Tr (s41_p5_den K (fun s w => B1 [s 0, s 1, s 5, s 6, s 7] w) s w) :=
  tr_loop (G := fun N' s w => s41_p4_den K (fun s w => B1 [s 0, s 1, s 5, s 6, s 7] w) N' s w) (F := s41_p5_F K B1) (sel := fun s => [s 0, s 1, s 5, s 6, s 7, s 8]) (s := s) (w := w) (p := s41_p5 K B1 (s 0) (s 1) (s 5) (s 6) (s 7) (s 8) w) (q := s41_p5_den K (fun s w => B1 [s 0, s 1, s 5, s 6, s 7] w) s w) (fun B s w h => s41_p4_ok K B1 B s w @h) (by kernel_rfl) (by kernel_rfl) @h
def s41_p6 (K : Value → World → Prop) (B1 : List Value → World → Prop) (t0 t1 t5 t6 t7 : Value) (w : World) : Prop :=
  s41_p5 K B1 t0 t1 t5 t6 t7 t7 w
def s41_p6_den (K : Value → World → Prop) (M1 : (Nat → Value) → World → Prop) : (Nat → Value) → World → Prop := denL Try.prog [(cd (Try.f41.body.getD .skip) [1, 1, 1, 1, 0, 1, 0, 0, 1, 0, 0, 0, 0])] (s41_p5_den K M1) (fun i => (bif Nat.beq i 1 then (s41_p2_den K M1) else (bif Nat.beq i 0 then (s41_p1_den K) else (fun _ _ => False)))) (s41_R K)
theorem s41_p6_ok (K : Value → World → Prop) (B1 : List Value → World → Prop) (s : Nat → Value) (w : World) (h : s41_p6 K B1 (s 0) (s 1) (s 5) (s 6) (s 7) w) : Tr (s41_p6_den K (fun s w => B1 [s 0, s 1, s 5, s 6, s 7] w) s w) :=
  tr_simple (P := Try.prog) (codes := [(cd (Try.f41.body.getD .skip) [1, 1, 1, 1, 0, 1, 0, 0, 1, 0, 0, 0, 0])]) (N := (fun s w => s41_p5 K B1 (s 0) (s 1) (s 5) (s 6) (s 7) (s 8) w)) (N' := (s41_p5_den K (fun s w => B1 [s 0, s 1, s 5, s 6, s 7] w))) (X := (fun i => (bif Nat.beq i 1 then (fun s w => s41_p2 K B1 (s 0) (s 1) (s 5) (s 6) (s 7) w) else (bif Nat.beq i 0 then (fun s w => s41_p1 K (s 0) (s 6) w) else (fun _ _ => False))))) (X' := (fun i => (bif Nat.beq i 1 then (s41_p2_den K (fun s w => B1 [s 0, s 1, s 5, s 6, s 7] w)) else (bif Nat.beq i 0 then (s41_p1_den K) else (fun _ _ => False))))) (R := s41_R K) (s := s) (w := w) (p := s41_p6 K B1 (s 0) (s 1) (s 5) (s 6) (s 7) w) (q := s41_p6_den K (fun s w => B1 [s 0, s 1, s 5, s 6, s 7] w) s w) (fun s w h => s41_p5_ok K B1 s w @h) (fun i => (tr_bif (fun s w h => s41_p2_ok K B1 s w @h) (tr_bif (fun s w h => s41_p1_ok K s w @h) tr_id))) (by kernel_rfl) (by kernel_rfl) @h
def s41_p7 (K : Value → World → Prop) (B1 : List Value → World → Prop) (t0 t1 t5 t6 t7 : Value) (w : World) : Prop :=
  boI .geq t7 (.int .i64 0) (fun t35 w =>
  ifb t35
  (s41_p6 K B1 t0 t1 t5 t6 t7 w)
  (s41_p1 K t0 t6 w)) w
def s41_p7_den (K : Value → World → Prop) (M1 : (Nat → Value) → World → Prop) : (Nat → Value) → World → Prop := denL Try.prog [(cd (Try.f41.body.getD .skip) [1, 1, 1, 1, 0, 1, 0, 0, 0, 0]), (cd (Try.f41.body.getD .skip) [1, 1, 1, 1, 0, 1, 0, 0, 0, 1])] (s41_p6_den K M1) (fun i => (bif Nat.beq i 0 then (s41_p1_den K) else (fun _ _ => False))) (s41_R K)
theorem s41_p7_ok (K : Value → World → Prop) (B1 : List Value → World → Prop) (s : Nat → Value) (w : World) (h : s41_p7 K B1 (s 0) (s 1) (s 5) (s 6) (s 7) w) : Tr (s41_p7_den K (fun s w => B1 [s 0, s 1, s 5, s 6, s 7] w) s w) :=
  tr_simple (P := Try.prog) (codes := [(cd (Try.f41.body.getD .skip) [1, 1, 1, 1, 0, 1, 0, 0, 0, 0]), (cd (Try.f41.body.getD .skip) [1, 1, 1, 1, 0, 1, 0, 0, 0, 1])]) (N := (fun s w => s41_p6 K B1 (s 0) (s 1) (s 5) (s 6) (s 7) w)) (N' := (s41_p6_den K (fun s w => B1 [s 0, s 1, s 5, s 6, s 7] w))) (X := (fun i => (bif Nat.beq i 0 then (fun s w => s41_p1 K (s 0) (s 6) w) else (fun _ _ => False)))) (X' := (fun i => (bif Nat.beq i 0 then (s41_p1_den K) else (fun _ _ => False)))) (R := s41_R K) (s := s) (w := w) (p := s41_p7 K B1 (s 0) (s 1) (s 5) (s 6) (s 7) w) (q := s41_p7_den K (fun s w => B1 [s 0, s 1, s 5, s 6, s 7] w) s w) (fun s w h => s41_p6_ok K B1 s w @h) (fun i => (tr_bif (fun s w h => s41_p1_ok K s w @h) tr_id)) (by kernel_rfl) (by kernel_rfl) @h
def s41_p8_F (K : Value → World → Prop) (B1 : List Value → World → Prop) (l : List Value) (w : World) : Prop :=
  match l with
  | [t0, t1, t5, t6, t7] => s41_p7 K B1 t0 t1 t5 t6 t7 w
  | _ => False
theorem s41_p8_Fe {K : Value → World → Prop} {B1 : List Value → World → Prop} {t0 t1 t5 t6 t7 : Value} {w : World} : s41_p8_F K B1 [t0, t1, t5, t6, t7] w = s41_p7 K B1 t0 t1 t5 t6 t7 w := by kernel_rfl
def s41_p8 (K : Value → World → Prop) (t0 t1 t5 t6 t7 : Value) (w : World) : Prop :=
  LoopL (s41_p8_F K) [t0, t1, t5, t6, t7] w
def s41_p8_den (K : Value → World → Prop) : (Nat → Value) → World → Prop := fun s w => LoopP (fun M1 s w => s41_p7_den K M1 s w) s w
theorem s41_p8_ok (K : Value → World → Prop) (s : Nat → Value) (w : World) (h : s41_p8 K (s 0) (s 1) (s 5) (s 6) (s 7) w) : Tr (s41_p8_den K s w) :=
  tr_loop (G := fun N' s w => s41_p7_den K N' s w) (F := s41_p8_F K) (sel := fun s => [s 0, s 1, s 5, s 6, s 7]) (s := s) (w := w) (p := s41_p8 K (s 0) (s 1) (s 5) (s 6) (s 7) w) (q := s41_p8_den K s w) (fun B s w h => s41_p7_ok K B s w @h) (by kernel_rfl) (by kernel_rfl) @h
def s41_p9 (K : Value → World → Prop) (t0 t1 : Value) (w : World) : Prop :=
  lnS t0 (fun t10 w =>
  boI .eql t10 (.int .i64 0) (fun t12 w =>
  gd t12 false (fun K w => K t1 w) (fun t14 w =>
  gd t12 false (lnS t14) (fun t15 w =>
  gd t12 false (boI .eql t15 (.int .i64 0)) (fun t16 w =>
  pk t12 (.bool true) t16 (fun t17 w =>
  gd t17 false (fun K w => K t1 w) (fun t19 w =>
  gd t17 false (lnS t19) (fun t20 w =>
  gd t17 false (fun K w => K t10 w) (fun t21 w =>
  gd t17 false (boI .rem t20 t21) (fun t22 w =>
  gd t17 false (boI .neq t22 (.int .i64 0)) (fun t23 w =>
  pk t17 (.bool true) t23 (fun t24 w =>
  gd t24 false (fun K w => K t1 w) (fun t26 w =>
  gd t24 false (lnS t26) (fun t27 w =>
  gd t24 false (fun K w => K t10 w) (fun t28 w =>
  gd t24 false (boI .quo t27 t28) (fun t29 w =>
  gd t24 false (boI .gtr t29 (.int .i64 281474976710656)) (fun t30 w =>
  pk t24 (.bool true) t30 (fun t31 w =>
  ifb t31
  (K (.bool false) w)
  (boI .sub t10 (.int .i64 1) (fun t33 w =>
  s41_p8 K t0 t1 t10 (.int .u64 0) t33 w) w)) w) w) w) w) w) w) w) w) w) w) w) w) w) w) w) w) w) w
def s41_p9_den (K : Value → World → Prop) : (Nat → Value) → World → Prop := denL Try.prog [(cd (Try.f41.body.getD .skip) [0]), (cd (Try.f41.body.getD .skip) [1, 0]), (cd (Try.f41.body.getD .skip) [1, 1, 0, 0]), (cd (Try.f41.body.getD .skip) [1, 1, 0, 1]), (cd (Try.f41.body.getD .skip) [1, 1, 1, 0]), (cd (Try.f41.body.getD .skip) [1, 1, 1, 1, 0, 0])] (s41_p8_den K) (fun i => (fun _ _ => False)) (s41_R K)
theorem s41_p9_ok (K : Value → World → Prop) (s : Nat → Value) (w : World) (h : s41_p9 K (s 0) (s 1) w) : Tr (s41_p9_den K s w) :=
  tr_simple (P := Try.prog) (codes := [(cd (Try.f41.body.getD .skip) [0]), (cd (Try.f41.body.getD .skip) [1, 0]), (cd (Try.f41.body.getD .skip) [1, 1, 0, 0]), (cd (Try.f41.body.getD .skip) [1, 1, 0, 1]), (cd (Try.f41.body.getD .skip) [1, 1, 1, 0]), (cd (Try.f41.body.getD .skip) [1, 1, 1, 1, 0, 0])]) (N := (fun s w => s41_p8 K (s 0) (s 1) (s 5) (s 6) (s 7) w)) (N' := (s41_p8_den K)) (X := (fun i => (fun _ _ => False))) (X' := (fun i => (fun _ _ => False))) (R := s41_R K) (s := s) (w := w) (p := s41_p9 K (s 0) (s 1) w) (q := s41_p9_den K s w) (fun s w h => s41_p8_ok K s w @h) (fun i => tr_id) (by kernel_rfl) (by kernel_rfl) @h
/-- the call, from the text -/
theorem c41 (t0 t1 : Value) {K : Value → World → Prop} {w : World} (h : s41_p9 K t0 t1 w) : cl Try.prog 41 #[t0, t1] K w :=
  calls_of_tr (c := (Try.f41.body.getD .skip)) (fn := Try.f41) (q := s41_p9_den K (st0 #[t0, t1]) w) Try.func41 (by kernel_rfl) (by kernel_rfl) (Nat.le_of_ble_eq_true (by kernel_rfl)) (by kernel_rfl) (by kernel_rfl) (s41_p9_ok K (st0 #[t0, t1]) w @h)

/-! ### function 42 : e2e.octets.XOR -/
def s42_R (K : Value → World → Prop) (s : Nat → Value) (w : World) : Prop := retv Try.prog s Try.f42.results.toList (fun vs => K (pack vs) w) w
def s42_p1 (K : Value → World → Prop) (t7 : Value) (w : World) : Prop :=
  K t7 w
def s42_p1_den (K : Value → World → Prop) : (Nat → Value) → World → Prop := denL Try.prog [(cd (Try.f42.body.getD .skip) [1, 1, 1, 0]), (cd (Try.f42.body.getD .skip) [1, 1, 1, 1])] (fun _ _ => False) (fun i => (fun _ _ => False)) (s42_R K)
theorem s42_p1_ok (K : Value → World → Prop) (s : Nat → Value) (w : World) (h : s42_p1 K (s 7) w) : Tr (s42_p1_den K s w) :=
  tr_simple (P := Try.prog) (codes := [(cd (Try.f42.body.getD .skip) [1, 1, 1, 0]), (cd (Try.f42.body.getD .skip) [1, 1, 1, 1])]) (N := (fun _ _ => False)) (N' := (fun _ _ => False)) (X := (fun i => (fun _ _ => False))) (X' := (fun i => (fun _ _ => False))) (R := s42_R K) (s := s) (w := w) (p := s42_p1 K (s 7) w) (q := s42_p1_den K s w) tr_id (fun i => tr_id) (by kernel_rfl) (by kernel_rfl) @h
def s42_p2 (K : Value → World → Prop) (B1 : List Value → World → Prop) (t0 t1 t2 t7 t8 : Value) (w : World) : Prop :=
  boI .add t8 (.int .i64 1) (fun t20 w =>
  B1 [t0, t1, t2, t7, t20] w) w
def s42_p2_den (K : Value → World → Prop) (M1 : (Nat → Value) → World → Prop) : (Nat → Value) → World → Prop := denL Try.prog [(cd (Try.f42.body.getD .skip) [1, 1, 0, 1, 0, 0, 1, 1])] M1 (fun i => (bif Nat.beq i 0 then (s42_p1_den K) else (fun _ _ => False))) (s42_R K)
theorem s42_p2_ok (K : Value → World → Prop) (B1 : List Value → World → Prop) (s : Nat → Value) (w : World) (h : s42_p2 K B1 (s 0) (s 1) (s 2) (s 7) (s 8) w) : Tr (s42_p2_den K (fun s w => B1 [s 0, s 1, s 2, s 7, s 8] w) s w) :=
  tr_simple (P := Try.prog) (codes := [(cd (Try.f42.body.getD .skip) [1, 1, 0, 1, 0, 0, 1, 1])]) (N := (fun s w => B1 [s 0, s 1, s 2, s 7, s 8] w)) (N' := (fun s w => B1 [s 0, s 1, s 2, s 7, s 8] w)) (X := (fun i => (bif Nat.beq i 0 then (fun s w => s42_p1 K (s 7) w) else (fun _ _ => False)))) (X' := (fun i => (bif Nat.beq i 0 then (s42_p1_den K) else (fun _ _ => False)))) (R := s42_R K) (s := s) (w := w) (p := s42_p2 K B1 (s 0) (s 1) (s 2) (s 7) (s 8) w) (q := s42_p2_den K (fun s w => B1 [s 0, s 1, s 2, s 7, s 8] w) s w) tr_id (fun i => (tr_bif (fun s w h => s42_p1_ok K s w @h) tr_id)) (by kernel_rfl) (by kernel_rfl) @h
def s42_p3_d (K : Value → World → Prop) (B1 : List Value → World → Prop) (t0 t1 t2 t7 t8 : Value) (w0 w : World) : Prop :=
  ixs 1 t1 t8 (fun t25 _ =>
  ld1 t25 (fun t26 _ =>
  ixs 1 t2 t8 (fun t29 _ =>
  ld1 t29 (fun t30 _ =>
  boI .xor t26 t30 (fun t31 _ =>
  ixs 1 t0 t8 (fun t32 _ =>
  st1 t32 t31 (fun w =>
  s42_p2 K B1 t0 t1 t2 t7 t8 w) w) w0) w0) w0) w0) w0) w0
def s42_p3 (K : Value → World → Prop) (B1 : List Value → World → Prop) (t0 t1 t2 t7 t8 : Value) (w : World) : Prop := s42_p3_d K B1 t0 t1 t2 t7 t8 (drw w) (drw w)
def s42_p3_den (K : Value → World → Prop) (M1 : (Nat → Value) → World → Prop) : (Nat → Value) → World → Prop := denL Try.prog [(cd (Try.f42.body.getD .skip) [1, 1, 0, 1, 0, 0, 1, 0, 0])] (s42_p2_den K M1) (fun i => (bif Nat.beq i 1 then (s42_p2_den K M1) else (bif Nat.beq i 0 then (s42_p1_den K) else (fun _ _ => False)))) (s42_R K)
theorem s42_p3_ok (K : Value → World → Prop) (B1 : List Value → World → Prop) (s : Nat → Value) (w : World) (h : s42_p3 K B1 (s 0) (s 1) (s 2) (s 7) (s 8) w) : Tr (s42_p3_den K (fun s w => B1 [s 0, s 1, s 2, s 7, s 8] w) s w) :=
  tr_draw (P := Try.prog) (ops := (ro (cd (Try.f42.body.getD .skip) [1, 1, 0, 1, 0, 0, 1, 0, 0]))) (ms := [0, 0, 0, 0, 12, 28, 0, 0, 192, 448, 1020, 2047, 4095]) (cs := [0, 1, 2, 3, 4, 5, 6, 7, 8, 9, 10, 11]) (N := (fun s w => s42_p2 K B1 (s 0) (s 1) (s 2) (s 7) (s 8) w)) (N' := (s42_p2_den K (fun s w => B1 [s 0, s 1, s 2, s 7, s 8] w))) (s := s) (w := w) (p := s42_p3 K B1 (s 0) (s 1) (s 2) (s 7) (s 8) w) (q := s42_p3_den K (fun s w => B1 [s 0, s 1, s 2, s 7, s 8] w) s w) (by kernel_rfl) (by kernel_rfl) (fun s w h => s42_p2_ok K B1 s w @h) (by kernel_rfl) (by kernel_rfl) @h
def s42_p4 (K : Value → World → Prop) (B1 : List Value → World → Prop) (t0 t1 t2 t7 t8 : Value) (w : World) : Prop :=
  boI .lss t8 t7 (fun t18 w =>
  ifb t18
  (s42_p3 K B1 t0 t1 t2 t7 t8 w)
  (s42_p1 K t7 w)) w
def s42_p4_den (K : Value → World → Prop) (M1 : (Nat → Value) → World → Prop) : (Nat → Value) → World → Prop := denL Try.prog [(cd (Try.f42.body.getD .skip) [1, 1, 0, 1, 0, 0, 0, 0]), (cd (Try.f42.body.getD .skip) [1, 1, 0, 1, 0, 0, 0, 1])] (s42_p3_den K M1) (fun i => (bif Nat.beq i 0 then (s42_p1_den K) else (fun _ _ => False))) (s42_R K)
theorem s42_p4_ok (K : Value → World → Prop) (B1 : List Value → World → Prop) (s : Nat → Value) (w : World) (h : s42_p4 K B1 (s 0) (s 1) (s 2) (s 7) (s 8) w) : Tr (s42_p4_den K (fun s w => B1 [s 0, s 1, s 2, s 7, s 8] w) s w) :=
  tr_simple (P := Try.prog) (codes := [(cd (Try.f42.body.getD .skip) [1, 1, 0, 1, 0, 0, 0, 0]), (cd (Try.f42.body.getD .skip) [1, 1, 0, 1, 0, 0, 0, 1])]) (N := (fun s w => s42_p3 K B1 (s 0) (s 1) (s 2) (s 7) (s 8) w)) (N' := (s42_p3_den K (fun s w => B1 [s 0, s 1, s 2, s 7, s 8] w))) (X := (fun i => (bif Nat.beq i 0 then (fun s w => s42_p1 K (s 7) w) else (fun _ _ => False)))) (X' := (fun i => (bif Nat.beq i 0 then (s42_p1_den K) else (fun _ _ => False)))) (R := s42_R K) (s := s) (w := w) (p := s42_p4 K B1 (s 0) (s 1) (s 2) (s 7) (s 8) w) (q := s42_p4_den K (fun s w => B1 [s 0, s 1, s 2, s 7, s 8] w) s w) (fun s w h => s42_p3_ok K B1 s w @h) (fun i => (tr_bif (fun s w h => s42_p1_ok K s w @h) tr_id)) (by kernel_rfl) (by kernel_rfl) @h
def s42_p5_F (K : Value → World → Prop) (B1 : List Value → World → Prop) (l : List Value) (w : World) : Prop :=
  match l with
  | [t0, t1, t2, t7, t8] => s42_p4 K B1 t0 t1 t2 t7 t8 w
  | _ => False
theorem s42_p5_Fe {K : Value → World → Prop} {B1 : List Value → World → Prop} {t0 t1 t2 t7 t8 : Value} {w : World} : s42_p5_F K B1 [t0, t1, t2, t7, t8] w = s42_p4 K B1 t0 t1 t2 t7 t8 w := by kernel_rfl
def s42_p5 (K : Value → World → Prop) (t0 t1 t2 t7 t8 : Value) (w : World) : Prop :=
  LoopL (s42_p5_F K) [t0, t1, t2, t7, t8] w
def s42_p5_den (K : Value → World → Prop) : (Nat → Value) → World → Prop := fun s w => LoopP (fun M1 s w => s42_p4_den K M1 s w) s w
theorem s42_p5_ok (K : Value → World → Prop) (s : Nat → Value) (w : World) (h : s42_p5 K (s 0) (s 1) (s 2) (s 7) (s 8) w) : Tr (s42_p5_den K s w) :=
  tr_loop (G := fun N' s w => s42_p4_den K N' s w) (F := s42_p5_F K) (sel := fun s => [s 0, s 1, s 2, s 7, s 8]) (s := s) (w := w) (p := s42_p5 K (s 0) (s 1) (s 2) (s 7) (s 8) w) (q := s42_p5_den K s w) (fun B s w h => s42_p4_ok K B s w @h) (by kernel_rfl) (by kernel_rfl) @h
def s42_p6 (K : Value → World → Prop) (t0 t1 t2 : Value) (w : World) : Prop :=
  lnS t0 (fun t10 w =>
  lnS t1 (fun t12 w =>
  lnS t2 (fun t14 w =>
  rs Try.prog (Builtin.min_ #[3, 3, 3] 3 #[t10, t12, t14]) (fun t15 w =>
  s42_p5 K t0 t1 t2 t15 (.int .i64 0) w) w) w) w) w
def s42_p6_den (K : Value → World → Prop) : (Nat → Value) → World → Prop := denL Try.prog [(cd (Try.f42.body.getD .skip) [0]), (cd (Try.f42.body.getD .skip) [1, 0]), (cd (Try.f42.body.getD .skip) [1, 1, 0, 0])] (s42_p5_den K) (fun i => (fun _ _ => False)) (s42_R K)
theorem s42_p6_ok (K : Value → World → Prop) (s : Nat → Value) (w : World) (h : s42_p6 K (s 0) (s 1) (s 2) w) : Tr (s42_p6_den K s w) :=
  tr_simple (P := Try.prog) (codes := [(cd (Try.f42.body.getD .skip) [0]), (cd (Try.f42.body.getD .skip) [1, 0]), (cd (Try.f42.body.getD .skip) [1, 1, 0, 0])]) (N := (fun s w => s42_p5 K (s 0) (s 1) (s 2) (s 7) (s 8) w)) (N' := (s42_p5_den K)) (X := (fun i => (fun _ _ => False))) (X' := (fun i => (fun _ _ => False))) (R := s42_R K) (s := s) (w := w) (p := s42_p6 K (s 0) (s 1) (s 2) w) (q := s42_p6_den K s w) (fun s w h => s42_p5_ok K s w @h) (fun i => tr_id) (by kernel_rfl) (by kernel_rfl) @h
/-- the call, from the text -/
theorem c42 (t0 t1 t2 : Value) {K : Value → World → Prop} {w : World} (h : s42_p6 K t0 t1 t2 w) : cl Try.prog 42 #[t0, t1, t2] K w :=
  calls_of_tr (c := (Try.f42.body.getD .skip)) (fn := Try.f42) (q := s42_p6_den K (st0 #[t0, t1, t2]) w) Try.func42 (by kernel_rfl) (by kernel_rfl) (Nat.le_of_ble_eq_true (by kernel_rfl)) (by kernel_rfl) (by kernel_rfl) (s42_p6_ok K (st0 #[t0, t1, t2]) w @h)

/-! ### function 43 : e2e.octets.Equal -/
def s43_R (K : Value → World → Prop) (s : Nat → Value) (w : World) : Prop := retv Try.prog s Try.f43.results.toList (fun vs => K (pack vs) w) w
def s43_p1 (K : Value → World → Prop) (t5 : Value) (w : World) : Prop :=
  boI .eql t5 (.int .u8 0) (fun t30 w =>
  K t30 w) w
def s43_p1_den (K : Value → World → Prop) : (Nat → Value) → World → Prop := denL Try.prog [(cd (Try.f43.body.getD .skip) [1, 1, 1, 1, 0]), (cd (Try.f43.body.getD .skip) [1, 1, 1, 1, 1])] (fun _ _ => False) (fun i => (fun _ _ => False)) (s43_R K)
theorem s43_p1_ok (K : Value → World → Prop) (s : Nat → Value) (w : World) (h : s43_p1 K (s 5) w) : Tr (s43_p1_den K s w) :=
  tr_simple (P := Try.prog) (codes := [(cd (Try.f43.body.getD .skip) [1, 1, 1, 1, 0]), (cd (Try.f43.body.getD .skip) [1, 1, 1, 1, 1])]) (N := (fun _ _ => False)) (N' := (fun _ _ => False)) (X := (fun i => (fun _ _ => False))) (X' := (fun i => (fun _ _ => False))) (R := s43_R K) (s := s) (w := w) (p := s43_p1 K (s 5) w) (q := s43_p1_den K s w) tr_id (fun i => tr_id) (by kernel_rfl) (by kernel_rfl) @h
def s43_p2 (K : Value → World → Prop) (B1 : List Value → World → Prop) (t0 t1 t5 t13 t14 : Value) (w : World) : Prop :=
  boI .add t14 (.int .i64 1) (fun t28 w =>
  B1 [t0, t1, t5, t13, t28] w) w
def s43_p2_den (K : Value → World → Prop) (M1 : (Nat → Value) → World → Prop) : (Nat → Value) → World → Prop := denL Try.prog [(cd (Try.f43.body.getD .skip) [1, 1, 1, 0, 1, 0, 0, 1, 1, 1])] M1 (fun i => (bif Nat.beq i 0 then (s43_p1_den K) else (fun _ _ => False))) (s43_R K)
theorem s43_p2_ok (K : Value → World → Prop) (B1 : List Value → World → Prop) (s : Nat → Value) (w : World) (h : s43_p2 K B1 (s 0) (s 1) (s 5) (s 13) (s 14) w) : Tr (s43_p2_den K (fun s w => B1 [s 0, s 1, s 5, s 13, s 14] w) s w) :=
  tr_simple (P := Try.prog) (codes := [(cd (Try.f43.body.getD .skip) [1, 1, 1, 0, 1, 0, 0, 1, 1, 1])]) (N := (fun s w => B1 [s 0, s 1, s 5, s 13, s 14] w)) (N' := (fun s w => B1 [s 0, s 1, s 5, s 13, s 14] w)) (X := (fun i => (bif Nat.beq i 0 then (fun s w => s43_p1 K (s 5) w) else (fun _ _ => False)))) (X' := (fun i => (bif Nat.beq i 0 then (s43_p1_den K) else (fun _ _ => False)))) (R := s43_R K) (s := s) (w := w) (p := s43_p2 K B1 (s 0) (s 1) (s 5) (s 13) (s 14) w) (q := s43_p2_den K (fun s w => B1 [s 0, s 1, s 5, s 13, s 14] w) s w) tr_id (fun i => (tr_bif (fun s w h => s43_p1_ok K s w @h) tr_id)) (by kernel_rfl) (by kernel_rfl) @h
def s43_p3_d (K : Value → World → Prop) (B1 : List Value → World → Prop) (t0 t1 t5 t6 t13 t14 : Value) (w0 w : World) : Prop :=
  ixs 1 t0 t6 (fun t20 _ =>
  ld1 t20 (fun t21 _ =>
  ixs 1 t1 t6 (fun t24 _ =>
  ld1 t24 (fun t25 _ =>
  boI .xor t21 t25 (fun t26 _ =>
  Below w0.heap.size w0 w ∧
  boI .or t5 t26 (fun t27 w =>
  s43_p2 K B1 t0 t1 t27 t13 t14 w) w) w0) w0) w0) w0) w0
def s43_p3 (K : Value → World → Prop) (B1 : List Value → World → Prop) (t0 t1 t5 t6 t13 t14 : Value) (w : World) : Prop := s43_p3_d K B1 t0 t1 t5 t6 t13 t14 (drw w) (drw w)
def s43_p3_den (K : Value → World → Prop) (M1 : (Nat → Value) → World → Prop) : (Nat → Value) → World → Prop := denL Try.prog [(cd (Try.f43.body.getD .skip) [1, 1, 1, 0, 1, 0, 0, 1, 1, 0, 0, 1])] (s43_p2_den K M1) (fun i => (bif Nat.beq i 1 then (s43_p2_den K M1) else (bif Nat.beq i 0 then (s43_p1_den K) else (fun _ _ => False)))) (s43_R K)
theorem s43_p3_ok (K : Value → World → Prop) (B1 : List Value → World → Prop) (s : Nat → Value) (w : World) (h : s43_p3 K B1 (s 0) (s 1) (s 5) (s 6) (s 13) (s 14) w) : Tr (s43_p3_den K (fun s w => B1 [s 0, s 1, s 5, s 13, s 14] w) s w) :=
  tr_draw (P := Try.prog) (ops := (ro (cd (Try.f43.body.getD .skip) [1, 1, 1, 0, 1, 0, 0, 1, 1, 0, 0, 1]))) (ms := [0, 0, 0, 6, 14, 0, 0, 96, 224, 510, 1023, 2047]) (cs := [1, 2, 3, 4, 5, 6, 7, 8, 9]) (N := (fun s w => s43_p2 K B1 (s 0) (s 1) (s 5) (s 13) (s 14) w)) (N' := (s43_p2_den K (fun s w => B1 [s 0, s 1, s 5, s 13, s 14] w))) (s := s) (w := w) (p := s43_p3 K B1 (s 0) (s 1) (s 5) (s 6) (s 13) (s 14) w) (q := s43_p3_den K (fun s w => B1 [s 0, s 1, s 5, s 13, s 14] w) s w) (by kernel_rfl) (by kernel_rfl) (fun s w h => s43_p2_ok K B1 s w @h) (by kernel_rfl) (by kernel_rfl) @h
def s43_p4 (K : Value → World → Prop) (B1 : List Value → World → Prop) (t0 t1 t5 t13 t14 : Value) (w : World) : Prop :=
  s43_p3 K B1 t0 t1 t5 t14 t13 t14 w
def s43_p4_den (K : Value → World → Prop) (M1 : (Nat → Value) → World → Prop) : (Nat → Value) → World → Prop := denL Try.prog [(cd (Try.f43.body.getD .skip) [1, 1, 1, 0, 1, 0, 0, 1, 1, 0, 0, 0])] (s43_p3_den K M1) (fun i => (bif Nat.beq i 1 then (s43_p2_den K M1) else (bif Nat.beq i 0 then (s43_p1_den K) else (fun _ _ => False)))) (s43_R K)
theorem s43_p4_ok (K : Value → World → Prop) (B1 : List Value → World → Prop) (s : Nat → Value) (w : World) (h : s43_p4 K B1 (s 0) (s 1) (s 5) (s 13) (s 14) w) : Tr (s43_p4_den K (fun s w => B1 [s 0, s 1, s 5, s 13, s 14] w) s w) :=
  tr_simple (P := Try.prog) (codes := [(cd (Try.f43.body.getD .skip) [1, 1, 1, 0, 1, 0, 0, 1, 1, 0, 0, 0])]) (N := (fun s w => s43_p3 K B1 (s 0) (s 1) (s 5) (s 6) (s 13) (s 14) w)) (N' := (s43_p3_den K (fun s w => B1 [s 0, s 1, s 5, s 13, s 14] w))) (X := (fun i => (bif Nat.beq i 1 then (fun s w => s43_p2 K B1 (s 0) (s 1) (s 5) (s 13) (s 14) w) else (bif Nat.beq i 0 then (fun s w => s43_p1 K (s 5) w) else (fun _ _ => False))))) (X' := (fun i => (bif Nat.beq i 1 then (s43_p2_den K (fun s w => B1 [s 0, s 1, s 5, s 13, s 14] w)) else (bif Nat.beq i 0 then (s43_p1_den K) else (fun _ _ => False))))) (R := s43_R K) (s := s) (w := w) (p := s43_p4 K B1 (s 0) (s 1) (s 5) (s 13) (s 14) w) (q := s43_p4_den K (fun s w => B1 [s 0, s 1, s 5, s 13, s 14] w) s w) (fun s w h => s43_p3_ok K B1 s w @h) (fun i => (tr_bif (fun s w h => s43_p2_ok K B1 s w @h) (tr_bif (fun s w h => s43_p1_ok K s w @h) tr_id))) (by kernel_rfl) (by kernel_rfl) @h
def s43_p5 (K : Value → World → Prop) (B1 : List Value → World → Prop) (t0 t1 t5 t13 t14 : Value) (w : World) : Prop :=
  boI .lss t14 t13 (fun t15 w =>
  ifb t15
  (s43_p4 K B1 t0 t1 t5 t13 t14 w)
  (s43_p1 K t5 w)) w
def s43_p5_den (K : Value → World → Prop) (M1 : (Nat → Value) → World → Prop) : (Nat → Value) → World → Prop := denL Try.prog [(cd (Try.f43.body.getD .skip) [1, 1, 1, 0, 1, 0, 0, 0]), (cd (Try.f43.body.getD .skip) [1, 1, 1, 0, 1, 0, 0, 1, 0])] (s43_p4_den K M1) (fun i => (bif Nat.beq i 0 then (s43_p1_den K) else (fun _ _ => False))) (s43_R K)
theorem s43_p5_ok (K : Value → World → Prop) (B1 : List Value → World → Prop) (s : Nat → Value) (w : World) (h : s43_p5 K B1 (s 0) (s 1) (s 5) (s 13) (s 14) w) : Tr (s43_p5_den K (fun s w => B1 [s 0, s 1, s 5, s 13, s 14] w) s w) :=
  tr_simple (P := Try.prog) (codes := [(cd (Try.f43.body.getD .skip) [1, 1, 1, 0, 1, 0, 0, 0]), (cd (Try.f43.body.getD .skip) [1, 1, 1, 0, 1, 0, 0, 1, 0])]) (N := (fun s w => s43_p4 K B1 (s 0) (s 1) (s 5) (s 13) (s 14) w)) (N' := (s43_p4_den K (fun s w => B1 [s 0, s 1, s 5, s 13, s 14] w))) (X := (fun i => (bif Nat.beq i 0 then (fun s w => s43_p1 K (s 5) w) else (fun _ _ => False)))) (X' := (fun i => (bif Nat.beq i 0 then (s43_p1_den K) else (fun _ _ => False)))) (R := s43_R K) (s := s) (w := w) (p := s43_p5 K B1 (s 0) (s 1) (s 5) (s 13) (s 14) w) (q := s43_p5_den K (fun s w => B1 [s 0, s 1, s 5, s 13, s 14] w) s w) (fun s w h => s43_p4_ok K B1 s w @h) (fun i => (tr_bif (fun s w h => s43_p1_ok K s w @h) tr_id)) (by kernel_rfl) (by kernel_rfl) @h
def s43_p6_F (K : Value → World → Prop) (B1 : List Value → World → Prop) (l : List Value) (w : World) : Prop :=
  match l with
  | [t0, t1, t5, t13, t14] => s43_p5 K B1 t0 t1 t5 t13 t14 w
  | _ => False
theorem s43_p6_Fe {K : Value → World → Prop} {B1 : List Value → World → Prop} {t0 t1 t5 t13 t14 : Value} {w : World} : s43_p6_F K B1 [t0, t1, t5, t13, t14] w = s43_p5 K B1 t0 t1 t5 t13 t14 w := by kernel_rfl
def s43_p6 (K : Value → World → Prop) (t0 t1 t5 t13 t14 : Value) (w : World) : Prop :=
  LoopL (s43_p6_F K) [t0, t1, t5, t13, t14] w
def s43_p6_den (K : Value → World → Prop) : (Nat → Value) → World → Prop := fun s w => LoopP (fun M1 s w => s43_p5_den K M1 s w) s w
theorem s43_p6_ok (K : Value → World → Prop) (s : Nat → Value) (w : World) (h : s43_p6 K (s 0) (s 1) (s 5) (s 13) (s 14) w) : Tr (s43_p6_den K s w) :=
  tr_loop (G := fun N' s w => s43_p5_den K N' s w) (F := s43_p6_F K) (sel := fun s => [s 0, s 1, s 5, s 13, s 14]) (s := s) (w := w) (p := s43_p6 K (s 0) (s 1) (s 5) (s 13) (s 14) w) (q := s43_p6_den K s w) (fun B s w h => s43_p5_ok K B s w @h) (by kernel_rfl) (by kernel_rfl) @h
def s43_p7 (K : Value → World → Prop) (t0 t1 : Value) (w : World) : Prop :=
  lnS t0 (fun t8 w =>
  lnS t1 (fun t10 w =>
  boI .neq t8 t10 (fun t11 w =>
  ifb t11
  (K (.bool false) w)
  (lnS t0 (fun t13 w =>
  s43_p6 K t0 t1 (.int .u8 0) t13 (.int .i64 0) w) w)) w) w) w
def s43_p7_den (K : Value → World → Prop) : (Nat → Value) → World → Prop := denL Try.prog [(cd (Try.f43.body.getD .skip) [0]), (cd (Try.f43.body.getD .skip) [1, 0, 0]), (cd (Try.f43.body.getD .skip) [1, 0, 1]), (cd (Try.f43.body.getD .skip) [1, 1, 0]), (cd (Try.f43.body.getD .skip) [1, 1, 1, 0, 0])] (s43_p6_den K) (fun i => (fun _ _ => False)) (s43_R K)
theorem s43_p7_ok (K : Value → World → Prop) (s : Nat → Value) (w : World) (h : s43_p7 K (s 0) (s 1) w) : Tr (s43_p7_den K s w) :=
  tr_simple (P := Try.prog) (codes := [(cd (Try.f43.body.getD .skip) [0]), (cd (Try.f43.body.getD .skip) [1, 0, 0]), (cd (Try.f43.body.getD .skip) [1, 0, 1]), (cd (Try.f43.body.getD .skip) [1, 1, 0]), (cd (Try.f43.body.getD .skip) [1, 1, 1, 0, 0])]) (N := (fun s w => s43_p6 K (s 0) (s 1) (s 5) (s 13) (s 14) w)) (N' := (s43_p6_den K)) (X := (fun i => (fun _ _ => False))) (X' := (fun i => (fun _ _ => False))) (R := s43_R K) (s := s) (w := w) (p := s43_p7 K (s 0) (s 1) w) (q := s43_p7_den K s w) (fun s w h => s43_p6_ok K s w @h) (fun i => tr_id) (by kernel_rfl) (by kernel_rfl) @h
/-- the call, from the text -/
theorem c43 (t0 t1 : Value) {K : Value → World → Prop} {w : World} (h : s43_p7 K t0 t1 w) : cl Try.prog 43 #[t0, t1] K w :=
  calls_of_tr (c := (Try.f43.body.getD .skip)) (fn := Try.f43) (q := s43_p7_den K (st0 #[t0, t1]) w) Try.func43 (by kernel_rfl) (by kernel_rfl) (Nat.le_of_ble_eq_true (by kernel_rfl)) (by kernel_rfl) (by kernel_rfl) (s43_p7_ok K (st0 #[t0, t1]) w @h)

/-! ### function 45 : e2e.octets.NewReader -/
def s45_R (K : Value → World → Prop) (s : Nat → Value) (w : World) : Prop := retv Try.prog s Try.f45.results.toList (fun vs => K (pack vs) w) w
def s45_p1 (K : Value → World → Prop) (t0 : Value) (w : World) : Prop :=
  nw 26 #[(.slice none 0 0), (.int .i64 0), (.bool false)] (fun t2 w =>
  bdq [(.slice none 0 0), (.int .i64 0), (.bool false)] [(some (0, 1), t0)] (fun t4 w =>
  stn 3 t2 t4 (fun w =>
  ldn 3 t2 (fun r0 _ =>
  K r0 w) w) w) w) w
def s45_p1_den (K : Value → World → Prop) : (Nat → Value) → World → Prop := denL Try.prog [(cd (Try.f45.body.getD .skip) [0]), (cd (Try.f45.body.getD .skip) [1, 0]), (cd (Try.f45.body.getD .skip) [1, 1])] (fun _ _ => False) (fun i => (fun _ _ => False)) (s45_R K)
theorem s45_p1_ok (K : Value → World → Prop) (s : Nat → Value) (w : World) (h : s45_p1 K (s 0) w) : Tr (s45_p1_den K s w) :=
  tr_simple (P := Try.prog) (codes := [(cd (Try.f45.body.getD .skip) [0]), (cd (Try.f45.body.getD .skip) [1, 0]), (cd (Try.f45.body.getD .skip) [1, 1])]) (N := (fun _ _ => False)) (N' := (fun _ _ => False)) (X := (fun i => (fun _ _ => False))) (X' := (fun i => (fun _ _ => False))) (R := s45_R K) (s := s) (w := w) (p := s45_p1 K (s 0) w) (q := s45_p1_den K s w) tr_id (fun i => tr_id) (by kernel_rfl) (by kernel_rfl) @h
/-- the call, from the text -/
theorem c45 (t0 : Value) {K : Value → World → Prop} {w : World} (h : s45_p1 K t0 w) : cl Try.prog 45 #[t0] K w :=
  calls_of_tr (c := (Try.f45.body.getD .skip)) (fn := Try.f45) (q := s45_p1_den K (st0 #[t0]) w) Try.func45 (by kernel_rfl) (by kernel_rfl) (Nat.le_of_ble_eq_true (by kernel_rfl)) (by kernel_rfl) (by kernel_rfl) (s45_p1_ok K (st0 #[t0]) w @h)

/-! ### function 46 : e2e.octetslaw.read -/
def s46_R (K : Value → World → Prop) (s : Nat → Value) (w : World) : Prop := retv Try.prog s Try.f46.results.toList (fun vs => K (pack vs) w) w
def s46_p1 (K : Value → World → Prop) (t0 t1 t2 : Value) (w : World) : Prop :=
  boI .eql t1 (.int .i64 2) (fun t9 w =>
  gd t9 true (fun K w => K t2 w) (fun t11 w =>
  pk t9 t11 (.bool false) (fun t12 w =>
  ifb t12
  (cl Try.prog 92 #[t0] (fun t14 w =>
  cvi .u64 t14 (fun t15 w =>
  K t15 w) w) w)
  (boI .eql t1 (.int .i64 2) (fun t18 w =>
  ifb t18
  (cl Try.prog 93 #[t0] (fun t20 w =>
  cvi .u64 t20 (fun t21 w =>
  K t21 w) w) w)
  (boI .eql t1 (.int .i64 4) (fun t24 w =>
  gd t24 true (fun K w => K t2 w) (fun t26 w =>
  pk t24 t26 (.bool false) (fun t27 w =>
  ifb t27
  (cl Try.prog 94 #[t0] (fun t29 w =>
  cvi .u64 t29 (fun t30 w =>
  K t30 w) w) w)
  (boI .eql t1 (.int .i64 4) (fun t33 w =>
  ifb t33
  (cl Try.prog 95 #[t0] (fun t35 w =>
  cvi .u64 t35 (fun t36 w =>
  K t36 w) w) w)
  (ifb t2
  (cl Try.prog 96 #[t0] (fun t40 w =>
  K t40 w) w)
  (cl Try.prog 97 #[t0] (fun t42 w =>
  K t42 w) w))) w)) w) w) w)) w)) w) w) w
def s46_p1_den (K : Value → World → Prop) : (Nat → Value) → World → Prop := denL Try.prog [(cd (Try.f46.body.getD .skip) [0]), (cd (Try.f46.body.getD .skip) [1, 0]), (cd (Try.f46.body.getD .skip) [1, 1, 0]), (cd (Try.f46.body.getD .skip) [1, 1, 1])] (fun _ _ => False) (fun i => (fun _ _ => False)) (s46_R K)
theorem s46_p1_ok (K : Value → World → Prop) (s : Nat → Value) (w : World) (h : s46_p1 K (s 0) (s 1) (s 2) w) : Tr (s46_p1_den K s w) :=
  tr_simple (P := Try.prog) (codes := [(cd (Try.f46.body.getD .skip) [0]), (cd (Try.f46.body.getD .skip) [1, 0]), (cd (Try.f46.body.getD .skip) [1, 1, 0]), (cd (Try.f46.body.getD .skip) [1, 1, 1])]) (N := (fun _ _ => False)) (N' := (fun _ _ => False)) (X := (fun i => (fun _ _ => False))) (X' := (fun i => (fun _ _ => False))) (R := s46_R K) (s := s) (w := w) (p := s46_p1 K (s 0) (s 1) (s 2) w) (q := s46_p1_den K s w) tr_id (fun i => tr_id) (by kernel_rfl) (by kernel_rfl) @h
/-- the call, from the text -/
theorem c46 (t0 t1 t2 : Value) {K : Value → World → Prop} {w : World} (h : s46_p1 K t0 t1 t2 w) : cl Try.prog 46 #[t0, t1, t2] K w :=
  calls_of_tr (c := (Try.f46.body.getD .skip)) (fn := Try.f46) (q := s46_p1_den K (st0 #[t0, t1, t2]) w) Try.func46 (by kernel_rfl) (by kernel_rfl) (Nat.le_of_ble_eq_true (by kernel_rfl)) (by kernel_rfl) (by kernel_rfl) (s46_p1_ok K (st0 #[t0, t1, t2]) w @h)

/-! ### function 47 : (*e2e.octets.Reader).Failed -/
def s47_R (K : Value → World → Prop) (s : Nat → Value) (w : World) : Prop := retv Try.prog s Try.f47.results.toList (fun vs => K (pack vs) w) w
def s47_p1 (K : Value → World → Prop) (t0 : Value) (w : World) : Prop :=
  nck t0 (fun t4 w =>
  fd 2 t4 (fun t5 w =>
  ld1 t5 (fun t6 w =>
  K t6 w) w) w) w
def s47_p1_den (K : Value → World → Prop) : (Nat → Value) → World → Prop := denL Try.prog [(cd (Try.f47.body.getD .skip) [0]), (cd (Try.f47.body.getD .skip) [1, 0]), (cd (Try.f47.body.getD .skip) [1, 1])] (fun _ _ => False) (fun i => (fun _ _ => False)) (s47_R K)
theorem s47_p1_ok (K : Value → World → Prop) (s : Nat → Value) (w : World) (h : s47_p1 K (s 0) w) : Tr (s47_p1_den K s w) :=
  tr_simple (P := Try.prog) (codes := [(cd (Try.f47.body.getD .skip) [0]), (cd (Try.f47.body.getD .skip) [1, 0]), (cd (Try.f47.body.getD .skip) [1, 1])]) (N := (fun _ _ => False)) (N' := (fun _ _ => False)) (X := (fun i => (fun _ _ => False))) (X' := (fun i => (fun _ _ => False))) (R := s47_R K) (s := s) (w := w) (p := s47_p1 K (s 0) w) (q := s47_p1_den K s w) tr_id (fun i => tr_id) (by kernel_rfl) (by kernel_rfl) @h
/-- the call, from the text -/
theorem c47 (t0 : Value) {K : Value → World → Prop} {w : World} (h : s47_p1 K t0 w) : cl Try.prog 47 #[t0] K w :=
  calls_of_tr (c := (Try.f47.body.getD .skip)) (fn := Try.f47) (q := s47_p1_den K (st0 #[t0]) w) Try.func47 (by kernel_rfl) (by kernel_rfl) (Nat.le_of_ble_eq_true (by kernel_rfl)) (by kernel_rfl) (by kernel_rfl) (s47_p1_ok K (st0 #[t0]) w @h)

/-! ### function 48 : (*e2e.octets.Reader).Take -/
def s48_R (K : Value → World → Prop) (s : Nat → Value) (w : World) : Prop := retv Try.prog s Try.f48.results.toList (fun vs => K (pack vs) w) w
def s48_p1 (K : Value → World → Prop) (t0 t1 : Value) (w : World) : Prop :=
  cl Try.prog 98 #[t0, t1] (fun t7 w =>
  K t7 w) w
def s48_p1_den (K : Value → World → Prop) : (Nat → Value) → World → Prop := denL Try.prog [(cd (Try.f48.body.getD .skip) [0]), (cd (Try.f48.body.getD .skip) [1, 0]), (cd (Try.f48.body.getD .skip) [1, 1])] (fun _ _ => False) (fun i => (fun _ _ => False)) (s48_R K)
theorem s48_p1_ok (K : Value → World → Prop) (s : Nat → Value) (w : World) (h : s48_p1 K (s 0) (s 1) w) : Tr (s48_p1_den K s w) :=
  tr_simple (P := Try.prog) (codes := [(cd (Try.f48.body.getD .skip) [0]), (cd (Try.f48.body.getD .skip) [1, 0]), (cd (Try.f48.body.getD .skip) [1, 1])]) (N := (fun _ _ => False)) (N' := (fun _ _ => False)) (X := (fun i => (fun _ _ => False))) (X' := (fun i => (fun _ _ => False))) (R := s48_R K) (s := s) (w := w) (p := s48_p1 K (s 0) (s 1) w) (q := s48_p1_den K s w) tr_id (fun i => tr_id) (by kernel_rfl) (by kernel_rfl) @h
/-- the call, from the text -/
theorem c48 (t0 t1 : Value) {K : Value → World → Prop} {w : World} (h : s48_p1 K t0 t1 w) : cl Try.prog 48 #[t0, t1] K w :=
  calls_of_tr (c := (Try.f48.body.getD .skip)) (fn := Try.f48) (q := s48_p1_den K (st0 #[t0, t1]) w) Try.func48 (by kernel_rfl) (by kernel_rfl) (Nat.le_of_ble_eq_true (by kernel_rfl)) (by kernel_rfl) (by kernel_rfl) (s48_p1_ok K (st0 #[t0, t1]) w @h)

/-! ### function 49 : (*e2e.octets.Reader).Skip -/
def s49_R (K : Value → World → Prop) (s : Nat → Value) (w : World) : Prop := retv Try.prog s Try.f49.results.toList (fun vs => K (pack vs) w) w
def s49_p1 (K : Value → World → Prop) (t0 t1 : Value) (w : World) : Prop :=
  cl Try.prog 98 #[t0, t1] (fun t7 w =>
  nck t0 (fun t9 w =>
  fd 2 t9 (fun t10 w =>
  ld1 t10 (fun t11 w =>
  un .not t11 (fun t12 w =>
  K t12 w) w) w) w) w) w
def s49_p1_den (K : Value → World → Prop) : (Nat → Value) → World → Prop := denL Try.prog [(cd (Try.f49.body.getD .skip) [0]), (cd (Try.f49.body.getD .skip) [1, 0]), (cd (Try.f49.body.getD .skip) [1, 1, 0]), (cd (Try.f49.body.getD .skip) [1, 1, 1])] (fun _ _ => False) (fun i => (fun _ _ => False)) (s49_R K)
theorem s49_p1_ok (K : Value → World → Prop) (s : Nat → Value) (w : World) (h : s49_p1 K (s 0) (s 1) w) : Tr (s49_p1_den K s w) :=
  tr_simple (P := Try.prog) (codes := [(cd (Try.f49.body.getD .skip) [0]), (cd (Try.f49.body.getD .skip) [1, 0]), (cd (Try.f49.body.getD .skip) [1, 1, 0]), (cd (Try.f49.body.getD .skip) [1, 1, 1])]) (N := (fun _ _ => False)) (N' := (fun _ _ => False)) (X := (fun i => (fun _ _ => False))) (X' := (fun i => (fun _ _ => False))) (R := s49_R K) (s := s) (w := w) (p := s49_p1 K (s 0) (s 1) w) (q := s49_p1_den K s w) tr_id (fun i => tr_id) (by kernel_rfl) (by kernel_rfl) @h
/-- the call, from the text -/
theorem c49 (t0 t1 : Value) {K : Value → World → Prop} {w : World} (h : s49_p1 K t0 t1 w) : cl Try.prog 49 #[t0, t1] K w :=
  calls_of_tr (c := (Try.f49.body.getD .skip)) (fn := Try.f49) (q := s49_p1_den K (st0 #[t0, t1]) w) Try.func49 (by kernel_rfl) (by kernel_rfl) (Nat.le_of_ble_eq_true (by kernel_rfl)) (by kernel_rfl) (by kernel_rfl) (s49_p1_ok K (st0 #[t0, t1]) w @h)

/-! ### function 50 : e2e.octetsm.GoodWidth -/
def s50_R (K : Value → World → Prop) (s : Nat → Value) (w : World) : Prop := retv Try.prog s Try.f50.results.toList (fun vs => K (pack vs) w) w
def s50_p1 (K : Value → World → Prop) (t0 : Value) (w : World) : Prop :=
  boI .eql t0 (.int .i64 2) (fun t4 w =>
  gd t4 false (fun K w => K t0 w) (fun t6 w =>
  gd t4 false (boI .eql t6 (.int .i64 4)) (fun t7 w =>
  pk t4 (.bool true) t7 (fun t8 w =>
  gd t8 false (fun K w => K t0 w) (fun t10 w =>
  gd t8 false (boI .eql t10 (.int .i64 8)) (fun t11 w =>
  pk t8 (.bool true) t11 (fun t12 w =>
  K t12 w) w) w) w) w) w) w) w
def s50_p1_den (K : Value → World → Prop) : (Nat → Value) → World → Prop := denL Try.prog [(cd (Try.f50.body.getD .skip) [0]), (cd (Try.f50.body.getD .skip) [1, 0]), (cd (Try.f50.body.getD .skip) [1, 1])] (fun _ _ => False) (fun i => (fun _ _ => False)) (s50_R K)
theorem s50_p1_ok (K : Value → World → Prop) (s : Nat → Value) (w : World) (h : s50_p1 K (s 0) w) : Tr (s50_p1_den K s w) :=
  tr_simple (P := Try.prog) (codes := [(cd (Try.f50.body.getD .skip) [0]), (cd (Try.f50.body.getD .skip) [1, 0]), (cd (Try.f50.body.getD .skip) [1, 1])]) (N := (fun _ _ => False)) (N' := (fun _ _ => False)) (X := (fun i => (fun _ _ => False))) (X' := (fun i => (fun _ _ => False))) (R := s50_R K) (s := s) (w := w) (p := s50_p1 K (s 0) w) (q := s50_p1_den K s w) tr_id (fun i => tr_id) (by kernel_rfl) (by kernel_rfl) @h
/-- the call, from the text -/
theorem c50 (t0 : Value) {K : Value → World → Prop} {w : World} (h : s50_p1 K t0 w) : cl Try.prog 50 #[t0] K w :=
  calls_of_tr (c := (Try.f50.body.getD .skip)) (fn := Try.f50) (q := s50_p1_den K (st0 #[t0]) w) Try.func50 (by kernel_rfl) (by kernel_rfl) (Nat.le_of_ble_eq_true (by kernel_rfl)) (by kernel_rfl) (by kernel_rfl) (s50_p1_ok K (st0 #[t0]) w @h)

/-! ### function 51 : e2e.octetsm.Inside -/
def s51_R (K : Value → World → Prop) (s : Nat → Value) (w : World) : Prop := retv Try.prog s Try.f51.results.toList (fun vs => K (pack vs) w) w
def s51_p1 (K : Value → World → Prop) (t0 t1 t2 : Value) (w : World) : Prop :=
  boI .lss t1 (.int .i64 0) (fun t8 w =>
  gd t8 false (fun K w => K t2 w) (fun t10 w =>
  gd t8 false (boI .lss t10 (.int .i64 0)) (fun t11 w =>
  pk t8 (.bool true) t11 (fun t12 w =>
  gd t12 false (fun K w => K t1 w) (fun t14 w =>
  gd t12 false (fun K w => K t0 w) (fun t15 w =>
  gd t12 false (boI .gtr t14 t15) (fun t16 w =>
  pk t12 (.bool true) t16 (fun t17 w =>
  ifb t17
  (K (.bool false) w)
  (boI .sub t0 t1 (fun t21 w =>
  boI .leq t2 t21 (fun t22 w =>
  K t22 w) w) w)) w) w) w) w) w) w) w) w
def s51_p1_den (K : Value → World → Prop) : (Nat → Value) → World → Prop := denL Try.prog [(cd (Try.f51.body.getD .skip) [0]), (cd (Try.f51.body.getD .skip) [1, 0, 0]), (cd (Try.f51.body.getD .skip) [1, 0, 1]), (cd (Try.f51.body.getD .skip) [1, 1, 0]), (cd (Try.f51.body.getD .skip) [1, 1, 1])] (fun _ _ => False) (fun i => (fun _ _ => False)) (s51_R K)
theorem s51_p1_ok (K : Value → World → Prop) (s : Nat → Value) (w : World) (h : s51_p1 K (s 0) (s 1) (s 2) w) : Tr (s51_p1_den K s w) :=
  tr_simple (P := Try.prog) (codes := [(cd (Try.f51.body.getD .skip) [0]), (cd (Try.f51.body.getD .skip) [1, 0, 0]), (cd (Try.f51.body.getD .skip) [1, 0, 1]), (cd (Try.f51.body.getD .skip) [1, 1, 0]), (cd (Try.f51.body.getD .skip) [1, 1, 1])]) (N := (fun _ _ => False)) (N' := (fun _ _ => False)) (X := (fun i => (fun _ _ => False))) (X' := (fun i => (fun _ _ => False))) (R := s51_R K) (s := s) (w := w) (p := s51_p1 K (s 0) (s 1) (s 2) w) (q := s51_p1_den K s w) tr_id (fun i => tr_id) (by kernel_rfl) (by kernel_rfl) @h
/-- the call, from the text -/
theorem c51 (t0 t1 t2 : Value) {K : Value → World → Prop} {w : World} (h : s51_p1 K t0 t1 t2 w) : cl Try.prog 51 #[t0, t1, t2] K w :=
  calls_of_tr (c := (Try.f51.body.getD .skip)) (fn := Try.f51) (q := s51_p1_den K (st0 #[t0, t1, t2]) w) Try.func51 (by kernel_rfl) (by kernel_rfl) (Nat.le_of_ble_eq_true (by kernel_rfl)) (by kernel_rfl) (by kernel_rfl) (s51_p1_ok K (st0 #[t0, t1, t2]) w @h)

/-! ### function 52 : e2e.octetsm.Number -/
def s52_R (K : Value → World → Prop) (s : Nat → Value) (w : World) : Prop := retv Try.prog s Try.f52.results.toList (fun vs => K (pack vs) w) w
def s52_p1 (K : Value → World → Prop) (t5 : Value) (w : World) : Prop :=
  K t5 w
def s52_p1_den (K : Value → World → Prop) : (Nat → Value) → World → Prop := denL Try.prog [(cd (Try.f52.body.getD .skip) [1, 1, 1, 0]), (cd (Try.f52.body.getD .skip) [1, 1, 1, 1])] (fun _ _ => False) (fun i => (fun _ _ => False)) (s52_R K)
theorem s52_p1_ok (K : Value → World → Prop) (s : Nat → Value) (w : World) (h : s52_p1 K (s 5) w) : Tr (s52_p1_den K s w) :=
  tr_simple (P := Try.prog) (codes := [(cd (Try.f52.body.getD .skip) [1, 1, 1, 0]), (cd (Try.f52.body.getD .skip) [1, 1, 1, 1])]) (N := (fun _ _ => False)) (N' := (fun _ _ => False)) (X := (fun i => (fun _ _ => False))) (X' := (fun i => (fun _ _ => False))) (R := s52_R K) (s := s) (w := w) (p := s52_p1 K (s 5) w) (q := s52_p1_den K s w) tr_id (fun i => tr_id) (by kernel_rfl) (by kernel_rfl) @h
def s52_p2 (K : Value → World → Prop) (B1 : List Value → World → Prop) (t0 t1 t5 t8 t9 : Value) (w : World) : Prop :=
  boI .add t9 (.int .i64 1) (fun t33 w =>
  B1 [t0, t1, t5, t8, t33] w) w
def s52_p2_den (K : Value → World → Prop) (M1 : (Nat → Value) → World → Prop) : (Nat → Value) → World → Prop := denL Try.prog [(cd (Try.f52.body.getD .skip) [1, 1, 0, 1, 0, 0, 1, 1, 1])] M1 (fun i => (bif Nat.beq i 0 then (s52_p1_den K) else (fun _ _ => False))) (s52_R K)
theorem s52_p2_ok (K : Value → World → Prop) (B1 : List Value → World → Prop) (s : Nat → Value) (w : World) (h : s52_p2 K B1 (s 0) (s 1) (s 5) (s 8) (s 9) w) : Tr (s52_p2_den K (fun s w => B1 [s 0, s 1, s 5, s 8, s 9] w) s w) :=
  tr_simple (P := Try.prog) (codes := [(cd (Try.f52.body.getD .skip) [1, 1, 0, 1, 0, 0, 1, 1, 1])]) (N := (fun s w => B1 [s 0, s 1, s 5, s 8, s 9] w)) (N' := (fun s w => B1 [s 0, s 1, s 5, s 8, s 9] w)) (X := (fun i => (bif Nat.beq i 0 then (fun s w => s52_p1 K (s 5) w) else (fun _ _ => False)))) (X' := (fun i => (bif Nat.beq i 0 then (s52_p1_den K) else (fun _ _ => False)))) (R := s52_R K) (s := s) (w := w) (p := s52_p2 K B1 (s 0) (s 1) (s 5) (s 8) (s 9) w) (q := s52_p2_den K (fun s w => B1 [s 0, s 1, s 5, s 8, s 9] w) s w) tr_id (fun i => (tr_bif (fun s w h => s52_p1_ok K s w @h) tr_id)) (by kernel_rfl) (by kernel_rfl) @h
def s52_p3 (K : Value → World → Prop) (B1 : List Value → World → Prop) (t0 t1 t5 t8 t9 : Value) (w : World) : Prop :=
  boI .lss t9 t8 (fun t10 w =>
  ifb t10
  (ifb t1
  (boI .mul t5 (.int .u64 256) (fun t14 w =>
  lnS t0 (fun t17 w =>
  boI .sub t17 (.int .i64 1) (fun t18 w =>
  boI .sub t18 t9 (fun t20 w =>
  ixs 1 t0 t20 (fun t21 w =>
  ld1 t21 (fun t22 w =>
  cvi .u64 t22 (fun t23 w =>
  boI .add t14 t23 (fun t24 w =>
  s52_p2 K B1 t0 t1 t24 t8 t9 w) w) w) w) w) w) w) w) w)
  (boI .mul t5 (.int .u64 256) (fun t26 w =>
  ixs 1 t0 t9 (fun t29 w =>
  ld1 t29 (fun t30 w =>
  cvi .u64 t30 (fun t31 w =>
  boI .add t26 t31 (fun t32 w =>
  s52_p2 K B1 t0 t1 t32 t8 t9 w) w) w) w) w) w))
  (s52_p1 K t5 w)) w
def s52_p3_den (K : Value → World → Prop) (M1 : (Nat → Value) → World → Prop) : (Nat → Value) → World → Prop := denL Try.prog [(cd (Try.f52.body.getD .skip) [1, 1, 0, 1, 0, 0, 0]), (cd (Try.f52.body.getD .skip) [1, 1, 0, 1, 0, 0, 1, 0]), (cd (Try.f52.body.getD .skip) [1, 1, 0, 1, 0, 0, 1, 1, 0])] (s52_p2_den K M1) (fun i => (bif Nat.beq i 0 then (s52_p1_den K) else (fun _ _ => False))) (s52_R K)
theorem s52_p3_ok (K : Value → World → Prop) (B1 : List Value → World → Prop) (s : Nat → Value) (w : World) (h : s52_p3 K B1 (s 0) (s 1) (s 5) (s 8) (s 9) w) : Tr (s52_p3_den K (fun s w => B1 [s 0, s 1, s 5, s 8, s 9] w) s w) :=
  tr_simple (P := Try.prog) (codes := [(cd (Try.f52.body.getD .skip) [1, 1, 0, 1, 0, 0, 0]), (cd (Try.f52.body.getD .skip) [1, 1, 0, 1, 0, 0, 1, 0]), (cd (Try.f52.body.getD .skip) [1, 1, 0, 1, 0, 0, 1, 1, 0])]) (N := (fun s w => s52_p2 K B1 (s 0) (s 1) (s 5) (s 8) (s 9) w)) (N' := (s52_p2_den K (fun s w => B1 [s 0, s 1, s 5, s 8, s 9] w))) (X := (fun i => (bif Nat.beq i 0 then (fun s w => s52_p1 K (s 5) w) else (fun _ _ => False)))) (X' := (fun i => (bif Nat.beq i 0 then (s52_p1_den K) else (fun _ _ => False)))) (R := s52_R K) (s := s) (w := w) (p := s52_p3 K B1 (s 0) (s 1) (s 5) (s 8) (s 9) w) (q := s52_p3_den K (fun s w => B1 [s 0, s 1, s 5, s 8, s 9] w) s w) (fun s w h => s52_p2_ok K B1 s w @h) (fun i => (tr_bif (fun s w h => s52_p1_ok K s w @h) tr_id)) (by kernel_rfl) (by kernel_rfl) @h
def s52_p4_F (K : Value → World → Prop) (B1 : List Value → World → Prop) (l : List Value) (w : World) : Prop :=
  match l with
  | [t0, t1, t5, t8, t9] => s52_p3 K B1 t0 t1 t5 t8 t9 w
  | _ => False
theorem s52_p4_Fe {K : Value → World → Prop} {B1 : List Value → World → Prop} {t0 t1 t5 t8 t9 : Value} {w : World} : s52_p4_F K B1 [t0, t1, t5, t8, t9] w = s52_p3 K B1 t0 t1 t5 t8 t9 w := by kernel_rfl
def s52_p4 (K : Value → World → Prop) (t0 t1 t5 t8 t9 : Value) (w : World) : Prop :=
  LoopL (s52_p4_F K) [t0, t1, t5, t8, t9] w
def s52_p4_den (K : Value → World → Prop) : (Nat → Value) → World → Prop := fun s w => LoopP (fun M1 s w => s52_p3_den K M1 s w) s w
theorem s52_p4_ok (K : Value → World → Prop) (s : Nat → Value) (w : World) (h : s52_p4 K (s 0) (s 1) (s 5) (s 8) (s 9) w) : Tr (s52_p4_den K s w) :=
  tr_loop (G := fun N' s w => s52_p3_den K N' s w) (F := s52_p4_F K) (sel := fun s => [s 0, s 1, s 5, s 8, s 9]) (s := s) (w := w) (p := s52_p4 K (s 0) (s 1) (s 5) (s 8) (s 9) w) (q := s52_p4_den K s w) (fun B s w h => s52_p3_ok K B s w @h) (by kernel_rfl) (by kernel_rfl) @h
def s52_p5 (K : Value → World → Prop) (t0 t1 : Value) (w : World) : Prop :=
  lnS t0 (fun t8 w =>
  s52_p4 K t0 t1 (.int .u64 0) t8 (.int .i64 0) w) w
def s52_p5_den (K : Value → World → Prop) : (Nat → Value) → World → Prop := denL Try.prog [(cd (Try.f52.body.getD .skip) [0]), (cd (Try.f52.body.getD .skip) [1, 0]), (cd (Try.f52.body.getD .skip) [1, 1, 0, 0])] (s52_p4_den K) (fun i => (fun _ _ => False)) (s52_R K)
theorem s52_p5_ok (K : Value → World → Prop) (s : Nat → Value) (w : World) (h : s52_p5 K (s 0) (s 1) w) : Tr (s52_p5_den K s w) :=
  tr_simple (P := Try.prog) (codes := [(cd (Try.f52.body.getD .skip) [0]), (cd (Try.f52.body.getD .skip) [1, 0]), (cd (Try.f52.body.getD .skip) [1, 1, 0, 0])]) (N := (fun s w => s52_p4 K (s 0) (s 1) (s 5) (s 8) (s 9) w)) (N' := (s52_p4_den K)) (X := (fun i => (fun _ _ => False))) (X' := (fun i => (fun _ _ => False))) (R := s52_R K) (s := s) (w := w) (p := s52_p5 K (s 0) (s 1) w) (q := s52_p5_den K s w) (fun s w h => s52_p4_ok K s w @h) (fun i => tr_id) (by kernel_rfl) (by kernel_rfl) @h
/-- the call, from the text -/
theorem c52 (t0 t1 : Value) {K : Value → World → Prop} {w : World} (h : s52_p5 K t0 t1 w) : cl Try.prog 52 #[t0, t1] K w :=
  calls_of_tr (c := (Try.f52.body.getD .skip)) (fn := Try.f52) (q := s52_p5_den K (st0 #[t0, t1]) w) Try.func52 (by kernel_rfl) (by kernel_rfl) (Nat.le_of_ble_eq_true (by kernel_rfl)) (by kernel_rfl) (by kernel_rfl) (s52_p5_ok K (st0 #[t0, t1]) w @h)

/-! ### function 53 : e2e.octetsm.RotL -/
def s53_R (K : Value → World → Prop) (s : Nat → Value) (w : World) : Prop := retv Try.prog s Try.f53.results.toList (fun vs => K (pack vs) w) w
def s53_p1 (K : Value → World → Prop) (t5 : Value) (w : World) : Prop :=
  cl Try.prog 101 #[t5] (fun t20 w =>
  K t20 w) w
def s53_p1_den (K : Value → World → Prop) : (Nat → Value) → World → Prop := denL Try.prog [(cd (Try.f53.body.getD .skip) [1, 1, 1, 0]), (cd (Try.f53.body.getD .skip) [1, 1, 1, 1])] (fun _ _ => False) (fun i => (fun _ _ => False)) (s53_R K)
theorem s53_p1_ok (K : Value → World → Prop) (s : Nat → Value) (w : World) (h : s53_p1 K (s 5) w) : Tr (s53_p1_den K s w) :=
  tr_simple (P := Try.prog) (codes := [(cd (Try.f53.body.getD .skip) [1, 1, 1, 0]), (cd (Try.f53.body.getD .skip) [1, 1, 1, 1])]) (N := (fun _ _ => False)) (N' := (fun _ _ => False)) (X := (fun i => (fun _ _ => False))) (X' := (fun i => (fun _ _ => False))) (R := s53_R K) (s := s) (w := w) (p := s53_p1 K (s 5) w) (q := s53_p1_den K s w) tr_id (fun i => tr_id) (by kernel_rfl) (by kernel_rfl) @h
def s53_p2 (K : Value → World → Prop) (B1 : List Value → World → Prop) (t5 t6 : Value) (w : World) : Prop :=
  boI .gtr t6 (.int .i64 0) (fun t14 w =>
  ifb t14
  (cl Try.prog 100 #[t5] (fun t18 w =>
  boI .sub t6 (.int .i64 1) (fun t16 w =>
  B1 [t18, t16] w) w) w)
  (s53_p1 K t5 w)) w
def s53_p2_den (K : Value → World → Prop) (M1 : (Nat → Value) → World → Prop) : (Nat → Value) → World → Prop := denL Try.prog [(cd (Try.f53.body.getD .skip) [1, 1, 0, 1, 0, 0, 0, 0]), (cd (Try.f53.body.getD .skip) [1, 1, 0, 1, 0, 0, 0, 1]), (cd (Try.f53.body.getD .skip) [1, 1, 0, 1, 0, 0, 1, 0]), (cd (Try.f53.body.getD .skip) [1, 1, 0, 1, 0, 0, 1, 1])] M1 (fun i => (bif Nat.beq i 0 then (s53_p1_den K) else (fun _ _ => False))) (s53_R K)
theorem s53_p2_ok (K : Value → World → Prop) (B1 : List Value → World → Prop) (s : Nat → Value) (w : World) (h : s53_p2 K B1 (s 5) (s 6) w) : Tr (s53_p2_den K (fun s w => B1 [s 5, s 6] w) s w) :=
  tr_simple (P := Try.prog) (codes := [(cd (Try.f53.body.getD .skip) [1, 1, 0, 1, 0, 0, 0, 0]), (cd (Try.f53.body.getD .skip) [1, 1, 0, 1, 0, 0, 0, 1]), (cd (Try.f53.body.getD .skip) [1, 1, 0, 1, 0, 0, 1, 0]), (cd (Try.f53.body.getD .skip) [1, 1, 0, 1, 0, 0, 1, 1])]) (N := (fun s w => B1 [s 5, s 6] w)) (N' := (fun s w => B1 [s 5, s 6] w)) (X := (fun i => (bif Nat.beq i 0 then (fun s w => s53_p1 K (s 5) w) else (fun _ _ => False)))) (X' := (fun i => (bif Nat.beq i 0 then (s53_p1_den K) else (fun _ _ => False)))) (R := s53_R K) (s := s) (w := w) (p := s53_p2 K B1 (s 5) (s 6) w) (q := s53_p2_den K (fun s w => B1 [s 5, s 6] w) s w) tr_id (fun i => (tr_bif (fun s w h => s53_p1_ok K s w @h) tr_id)) (by kernel_rfl) (by kernel_rfl) @h
def s53_p3_F (K : Value → World → Prop) (B1 : List Value → World → Prop) (l : List Value) (w : World) : Prop :=
  match l with
  | [t5, t6] => s53_p2 K B1 t5 t6 w
  | _ => False
theorem s53_p3_Fe {K : Value → World → Prop} {B1 : List Value → World → Prop} {t5 t6 : Value} {w : World} : s53_p3_F K B1 [t5, t6] w = s53_p2 K B1 t5 t6 w := by kernel_rfl
def s53_p3 (K : Value → World → Prop) (t5 t6 : Value) (w : World) : Prop :=
  LoopL (s53_p3_F K) [t5, t6] w
def s53_p3_den (K : Value → World → Prop) : (Nat → Value) → World → Prop := fun s w => LoopP (fun M1 s w => s53_p2_den K M1 s w) s w
theorem s53_p3_ok (K : Value → World → Prop) (s : Nat → Value) (w : World) (h : s53_p3 K (s 5) (s 6) w) : Tr (s53_p3_den K s w) :=
  tr_loop (G := fun N' s w => s53_p2_den K N' s w) (F := s53_p3_F K) (sel := fun s => [s 5, s 6]) (s := s) (w := w) (p := s53_p3 K (s 5) (s 6) w) (q := s53_p3_den K s w) (fun B s w h => s53_p2_ok K B s w @h) (by kernel_rfl) (by kernel_rfl) @h
def s53_p4 (K : Value → World → Prop) (t0 t1 : Value) (w : World) : Prop :=
  cl Try.prog 99 #[t0] (fun t8 w =>
  lnS t8 (fun t11 w =>
  cl Try.prog 61 #[t1, t11] (fun t12 w =>
  s53_p3 K t8 t12 w) w) w) w
def s53_p4_den (K : Value → World → Prop) : (Nat → Value) → World → Prop := denL Try.prog [(cd (Try.f53.body.getD .skip) [0]), (cd (Try.f53.body.getD .skip) [1, 0]), (cd (Try.f53.body.getD .skip) [1, 1, 0, 0])] (s53_p3_den K) (fun i => (fun _ _ => False)) (s53_R K)
theorem s53_p4_ok (K : Value → World → Prop) (s : Nat → Value) (w : World) (h : s53_p4 K (s 0) (s 1) w) : Tr (s53_p4_den K s w) :=
  tr_simple (P := Try.prog) (codes := [(cd (Try.f53.body.getD .skip) [0]), (cd (Try.f53.body.getD .skip) [1, 0]), (cd (Try.f53.body.getD .skip) [1, 1, 0, 0])]) (N := (fun s w => s53_p3 K (s 5) (s 6) w)) (N' := (s53_p3_den K)) (X := (fun i => (fun _ _ => False))) (X' := (fun i => (fun _ _ => False))) (R := s53_R K) (s := s) (w := w) (p := s53_p4 K (s 0) (s 1) w) (q := s53_p4_den K s w) (fun s w h => s53_p3_ok K s w @h) (fun i => tr_id) (by kernel_rfl) (by kernel_rfl) @h
/-- the call, from the text -/
theorem c53 (t0 t1 : Value) {K : Value → World → Prop} {w : World} (h : s53_p4 K t0 t1 w) : cl Try.prog 53 #[t0, t1] K w :=
  calls_of_tr (c := (Try.f53.body.getD .skip)) (fn := Try.f53) (q := s53_p4_den K (st0 #[t0, t1]) w) Try.func53 (by kernel_rfl) (by kernel_rfl) (Nat.le_of_ble_eq_true (by kernel_rfl)) (by kernel_rfl) (by kernel_rfl) (s53_p4_ok K (st0 #[t0, t1]) w @h)

/-! ### function 54 : e2e.octetsm.RotR -/
def s54_R (K : Value → World → Prop) (s : Nat → Value) (w : World) : Prop := retv Try.prog s Try.f54.results.toList (fun vs => K (pack vs) w) w
def s54_p1 (K : Value → World → Prop) (t5 : Value) (w : World) : Prop :=
  cl Try.prog 101 #[t5] (fun t20 w =>
  K t20 w) w
def s54_p1_den (K : Value → World → Prop) : (Nat → Value) → World → Prop := denL Try.prog [(cd (Try.f54.body.getD .skip) [1, 1, 1, 0]), (cd (Try.f54.body.getD .skip) [1, 1, 1, 1])] (fun _ _ => False) (fun i => (fun _ _ => False)) (s54_R K)
theorem s54_p1_ok (K : Value → World → Prop) (s : Nat → Value) (w : World) (h : s54_p1 K (s 5) w) : Tr (s54_p1_den K s w) :=
  tr_simple (P := Try.prog) (codes := [(cd (Try.f54.body.getD .skip) [1, 1, 1, 0]), (cd (Try.f54.body.getD .skip) [1, 1, 1, 1])]) (N := (fun _ _ => False)) (N' := (fun _ _ => False)) (X := (fun i => (fun _ _ => False))) (X' := (fun i => (fun _ _ => False))) (R := s54_R K) (s := s) (w := w) (p := s54_p1 K (s 5) w) (q := s54_p1_den K s w) tr_id (fun i => tr_id) (by kernel_rfl) (by kernel_rfl) @h
def s54_p2 (K : Value → World → Prop) (B1 : List Value → World → Prop) (t5 t6 : Value) (w : World) : Prop :=
  boI .gtr t6 (.int .i64 0) (fun t14 w =>
  ifb t14
  (cl Try.prog 102 #[t5] (fun t18 w =>
  boI .sub t6 (.int .i64 1) (fun t16 w =>
  B1 [t18, t16] w) w) w)
  (s54_p1 K t5 w)) w
def s54_p2_den (K : Value → World → Prop) (M1 : (Nat → Value) → World → Prop) : (Nat → Value) → World → Prop := denL Try.prog [(cd (Try.f54.body.getD .skip) [1, 1, 0, 1, 0, 0, 0, 0]), (cd (Try.f54.body.getD .skip) [1, 1, 0, 1, 0, 0, 0, 1]), (cd (Try.f54.body.getD .skip) [1, 1, 0, 1, 0, 0, 1, 0]), (cd (Try.f54.body.getD .skip) [1, 1, 0, 1, 0, 0, 1, 1])] M1 (fun i => (bif Nat.beq i 0 then (s54_p1_den K) else (fun _ _ => False))) (s54_R K)
theorem s54_p2_ok (K : Value → World → Prop) (B1 : List Value → World → Prop) (s : Nat → Value) (w : World) (h : s54_p2 K B1 (s 5) (s 6) w) : Tr (s54_p2_den K (fun s w => B1 [s 5, s 6] w) s w) :=
  tr_simple (P := Try.prog) (codes := [(cd (Try.f54.body.getD .skip) [1, 1, 0, 1, 0, 0, 0, 0]), (cd (Try.f54.body.getD .skip) [1, 1, 0, 1, 0, 0, 0, 1]), (cd (Try.f54.body.getD .skip) [1, 1, 0, 1, 0, 0, 1, 0]), (cd (Try.f54.body.getD .skip) [1, 1, 0, 1, 0, 0, 1, 1])]) (N := (fun s w => B1 [s 5, s 6] w)) (N' := (fun s w => B1 [s 5, s 6] w)) (X := (fun i => (bif Nat.beq i 0 then (fun s w => s54_p1 K (s 5) w) else (fun _ _ => False)))) (X' := (fun i => (bif Nat.beq i 0 then (s54_p1_den K) else (fun _ _ => False)))) (R := s54_R K) (s := s) (w := w) (p := s54_p2 K B1 (s 5) (s 6) w) (q := s54_p2_den K (fun s w => B1 [s 5, s 6] w) s w) tr_id (fun i => (tr_bif (fun s w h => s54_p1_ok K s w @h) tr_id)) (by kernel_rfl) (by kernel_rfl) @h
def s54_p3_F (K : Value → World → Prop) (B1 : List Value → World → Prop) (l : List Value) (w : World) : Prop :=
  match l with
  | [t5, t6] => s54_p2 K B1 t5 t6 w
  | _ => False
theorem s54_p3_Fe {K : Value → World → Prop} {B1 : List Value → World → Prop} {t5 t6 : Value} {w : World} : s54_p3_F K B1 [t5, t6] w = s54_p2 K B1 t5 t6 w := by kernel_rfl
def s54_p3 (K : Value → World → Prop) (t5 t6 : Value) (w : World) : Prop :=
  LoopL (s54_p3_F K) [t5, t6] w
def s54_p3_den (K : Value → World → Prop) : (Nat → Value) → World → Prop := fun s w => LoopP (fun M1 s w => s54_p2_den K M1 s w) s w
theorem s54_p3_ok (K : Value → World → Prop) (s : Nat → Value) (w : World) (h : s54_p3 K (s 5) (s 6) w) : Tr (s54_p3_den K s w) :=
  tr_loop (G := fun N' s w => s54_p2_den K N' s w) (F := s54_p3_F K) (sel := fun s => [s 5, s 6]) (s := s) (w := w) (p := s54_p3 K (s 5) (s 6) w) (q := s54_p3_den K s w) (fun B s w h => s54_p2_ok K B s w @h) (by kernel_rfl) (by kernel_rfl) @h
def s54_p4 (K : Value → World → Prop) (t0 t1 : Value) (w : World) : Prop :=
  cl Try.prog 99 #[t0] (fun t8 w =>
  lnS t8 (fun t11 w =>
  cl Try.prog 61 #[t1, t11] (fun t12 w =>
  s54_p3 K t8 t12 w) w) w) w
def s54_p4_den (K : Value → World → Prop) : (Nat → Value) → World → Prop := denL Try.prog [(cd (Try.f54.body.getD .skip) [0]), (cd (Try.f54.body.getD .skip) [1, 0]), (cd (Try.f54.body.getD .skip) [1, 1, 0, 0])] (s54_p3_den K) (fun i => (fun _ _ => False)) (s54_R K)
theorem s54_p4_ok (K : Value → World → Prop) (s : Nat → Value) (w : World) (h : s54_p4 K (s 0) (s 1) w) : Tr (s54_p4_den K s w) :=
  tr_simple (P := Try.prog) (codes := [(cd (Try.f54.body.getD .skip) [0]), (cd (Try.f54.body.getD .skip) [1, 0]), (cd (Try.f54.body.getD .skip) [1, 1, 0, 0])]) (N := (fun s w => s54_p3 K (s 5) (s 6) w)) (N' := (s54_p3_den K)) (X := (fun i => (fun _ _ => False))) (X' := (fun i => (fun _ _ => False))) (R := s54_R K) (s := s) (w := w) (p := s54_p4 K (s 0) (s 1) w) (q := s54_p4_den K s w) (fun s w h => s54_p3_ok K s w @h) (fun i => tr_id) (by kernel_rfl) (by kernel_rfl) @h
/-- the call, from the text -/
theorem c54 (t0 t1 : Value) {K : Value → World → Prop} {w : World} (h : s54_p4 K t0 t1 w) : cl Try.prog 54 #[t0, t1] K w :=
  calls_of_tr (c := (Try.f54.body.getD .skip)) (fn := Try.f54) (q := s54_p4_den K (st0 #[t0, t1]) w) Try.func54 (by kernel_rfl) (by kernel_rfl) (Nat.le_of_ble_eq_true (by kernel_rfl)) (by kernel_rfl) (by kernel_rfl) (s54_p4_ok K (st0 #[t0, t1]) w @h)

/-! ### function 55 : e2e.octetsm.Add -/
def s55_R (K : Value → World → Prop) (s : Nat → Value) (w : World) : Prop := retv Try.prog s Try.f55.results.toList (fun vs => K (pack vs) w) w
def s55_p1 (K : Value → World → Prop) (t0 t1 : Value) (w : World) : Prop :=
  lnS t0 (fun t9 w =>
  lnS t1 (fun t11 w =>
  boI .neq t9 t11 (fun t12 w =>
  ifb t12
  (K (.tuple #[(.slice none 0 0), (.bool false)]) w)
  (cl Try.prog 99 #[t0] (fun t15 w =>
  cl Try.prog 99 #[t1] (fun t17 w =>
  cl Try.prog 103 #[t15, t17, (.int .i64 0)] (fun t18 w =>
  exq t18 0 (fun t19 w =>
  exq t18 1 (fun t20 w =>
  lnS t19 (fun t24 w =>
  mks 3 [(.int .i64 0)] 8 t24 t24 (fun t25 w =>
  cl Try.prog 103 #[t19, t25, t20] (fun t27 w =>
  exq t27 0 (fun t28 w =>
  exq t27 1 (fun t29 w =>
  cl Try.prog 101 #[t28] (fun t31 w =>
  K (.tuple #[t31, (.bool true)]) w) w) w) w) w) w) w) w) w) w) w) w)) w) w) w
def s55_p1_den (K : Value → World → Prop) : (Nat → Value) → World → Prop := denL Try.prog [(cd (Try.f55.body.getD .skip) [0]), (cd (Try.f55.body.getD .skip) [1, 0, 0]), (cd (Try.f55.body.getD .skip) [1, 0, 1]), (cd (Try.f55.body.getD .skip) [1, 1, 0]), (cd (Try.f55.body.getD .skip) [1, 1, 1, 0]), (cd (Try.f55.body.getD .skip) [1, 1, 1, 1, 0]), (cd (Try.f55.body.getD .skip) [1, 1, 1, 1, 1])] (fun _ _ => False) (fun i => (fun _ _ => False)) (s55_R K)
theorem s55_p1_ok (K : Value → World → Prop) (s : Nat → Value) (w : World) (h : s55_p1 K (s 0) (s 1) w) : Tr (s55_p1_den K s w) :=
  tr_simple (P := Try.prog) (codes := [(cd (Try.f55.body.getD .skip) [0]), (cd (Try.f55.body.getD .skip) [1, 0, 0]), (cd (Try.f55.body.getD .skip) [1, 0, 1]), (cd (Try.f55.body.getD .skip) [1, 1, 0]), (cd (Try.f55.body.getD .skip) [1, 1, 1, 0]), (cd (Try.f55.body.getD .skip) [1, 1, 1, 1, 0]), (cd (Try.f55.body.getD .skip) [1, 1, 1, 1, 1])]) (N := (fun _ _ => False)) (N' := (fun _ _ => False)) (X := (fun i => (fun _ _ => False))) (X' := (fun i => (fun _ _ => False))) (R := s55_R K) (s := s) (w := w) (p := s55_p1 K (s 0) (s 1) w) (q := s55_p1_den K s w) tr_id (fun i => tr_id) (by kernel_rfl) (by kernel_rfl) @h
/-- the call, from the text -/
theorem c55 (t0 t1 : Value) {K : Value → World → Prop} {w : World} (h : s55_p1 K t0 t1 w) : cl Try.prog 55 #[t0, t1] K w :=
  calls_of_tr (c := (Try.f55.body.getD .skip)) (fn := Try.f55) (q := s55_p1_den K (st0 #[t0, t1]) w) Try.func55 (by kernel_rfl) (by kernel_rfl) (Nat.le_of_ble_eq_true (by kernel_rfl)) (by kernel_rfl) (by kernel_rfl) (s55_p1_ok K (st0 #[t0, t1]) w @h)

/-! ### function 56 : e2e.octetsm.Fold -/
def s56_R (K : Value → World → Prop) (s : Nat → Value) (w : World) : Prop := retv Try.prog s Try.f56.results.toList (fun vs => K (pack vs) w) w
def s56_p1 (K : Value → World → Prop) (t6 : Value) (w : World) : Prop :=
  K (.tuple #[t6, (.bool true)]) w
def s56_p1_den (K : Value → World → Prop) : (Nat → Value) → World → Prop := denL Try.prog [(cd (Try.f56.body.getD .skip) [1, 1, 1, 1, 0]), (cd (Try.f56.body.getD .skip) [1, 1, 1, 1, 1])] (fun _ _ => False) (fun i => (fun _ _ => False)) (s56_R K)
theorem s56_p1_ok (K : Value → World → Prop) (s : Nat → Value) (w : World) (h : s56_p1 K (s 6) w) : Tr (s56_p1_den K s w) :=
  tr_simple (P := Try.prog) (codes := [(cd (Try.f56.body.getD .skip) [1, 1, 1, 1, 0]), (cd (Try.f56.body.getD .skip) [1, 1, 1, 1, 1])]) (N := (fun _ _ => False)) (N' := (fun _ _ => False)) (X := (fun i => (fun _ _ => False))) (X' := (fun i => (fun _ _ => False))) (R := s56_R K) (s := s) (w := w) (p := s56_p1 K (s 6) w) (q := s56_p1_den K s w) tr_id (fun i => tr_id) (by kernel_rfl) (by kernel_rfl) @h
def s56_p2 (K : Value → World → Prop) (B1 : List Value → World → Prop) (t0 t1 t6 t7 : Value) (w : World) : Prop :=
  lnS t1 (fun t29 w =>
  boI .lss t7 t29 (fun t30 w =>
  ifb t30
  (boI .add t7 t0 (fun t40 w =>
  sls 1 t1 (some t7) (some t40) (fun t41 w =>
  cl Try.prog 55 #[t6, t41] (fun t42 w =>
  exq t42 0 (fun t43 w =>
  exq t42 1 (fun t44 w =>
  boI .add t7 t0 (fun t33 w =>
  B1 [t0, t1, t43, t33] w) w) w) w) w) w) w)
  (s56_p1 K t6 w)) w) w
def s56_p2_den (K : Value → World → Prop) (M1 : (Nat → Value) → World → Prop) : (Nat → Value) → World → Prop := denL Try.prog [(cd (Try.f56.body.getD .skip) [1, 1, 1, 0, 1, 0, 0, 0, 0]), (cd (Try.f56.body.getD .skip) [1, 1, 1, 0, 1, 0, 0, 0, 1]), (cd (Try.f56.body.getD .skip) [1, 1, 1, 0, 1, 0, 0, 1, 0]), (cd (Try.f56.body.getD .skip) [1, 1, 1, 0, 1, 0, 0, 1, 1])] M1 (fun i => (bif Nat.beq i 0 then (s56_p1_den K) else (fun _ _ => False))) (s56_R K)
theorem s56_p2_ok (K : Value → World → Prop) (B1 : List Value → World → Prop) (s : Nat → Value) (w : World) (h : s56_p2 K B1 (s 0) (s 1) (s 6) (s 7) w) : Tr (s56_p2_den K (fun s w => B1 [s 0, s 1, s 6, s 7] w) s w) :=
  tr_simple (P := Try.prog) (codes := [(cd (Try.f56.body.getD .skip) [1, 1, 1, 0, 1, 0, 0, 0, 0]), (cd (Try.f56.body.getD .skip) [1, 1, 1, 0, 1, 0, 0, 0, 1]), (cd (Try.f56.body.getD .skip) [1, 1, 1, 0, 1, 0, 0, 1, 0]), (cd (Try.f56.body.getD .skip) [1, 1, 1, 0, 1, 0, 0, 1, 1])]) (N := (fun s w => B1 [s 0, s 1, s 6, s 7] w)) (N' := (fun s w => B1 [s 0, s 1, s 6, s 7] w)) (X := (fun i => (bif Nat.beq i 0 then (fun s w => s56_p1 K (s 6) w) else (fun _ _ => False)))) (X' := (fun i => (bif Nat.beq i 0 then (s56_p1_den K) else (fun _ _ => False)))) (R := s56_R K) (s := s) (w := w) (p := s56_p2 K B1 (s 0) (s 1) (s 6) (s 7) w) (q := s56_p2_den K (fun s w => B1 [s 0, s 1, s 6, s 7] w) s w) tr_id (fun i => (tr_bif (fun s w h => s56_p1_ok K s w @h) tr_id)) (by kernel_rfl) (by kernel_rfl) @h
def s56_p3_F (K : Value → World → Prop) (B1 : List Value → World → Prop) (l : List Value) (w : World) : Prop :=
  match l with
  | [t0, t1, t6, t7] => s56_p2 K B1 t0 t1 t6 t7 w
  | _ => False
theorem s56_p3_Fe {K : Value → World → Prop} {B1 : List Value → World → Prop} {t0 t1 t6 t7 : Value} {w : World} : s56_p3_F K B1 [t0, t1, t6, t7] w = s56_p2 K B1 t0 t1 t6 t7 w := by kernel_rfl
def s56_p3 (K : Value → World → Prop) (t0 t1 t6 t7 : Value) (w : World) : Prop :=
  LoopL (s56_p3_F K) [t0, t1, t6, t7] w
def s56_p3_den (K : Value → World → Prop) : (Nat → Value) → World → Prop := fun s w => LoopP (fun M1 s w => s56_p2_den K M1 s w) s w
theorem s56_p3_ok (K : Value → World → Prop) (s : Nat → Value) (w : World) (h : s56_p3 K (s 0) (s 1) (s 6) (s 7) w) : Tr (s56_p3_den K s w) :=
  tr_loop (G := fun N' s w => s56_p2_den K N' s w) (F := s56_p3_F K) (sel := fun s => [s 0, s 1, s 6, s 7]) (s := s) (w := w) (p := s56_p3 K (s 0) (s 1) (s 6) (s 7) w) (q := s56_p3_den K s w) (fun B s w h => s56_p2_ok K B s w @h) (by kernel_rfl) (by kernel_rfl) @h
def s56_p4 (K : Value → World → Prop) (t0 t1 : Value) (w : World) : Prop :=
  boI .leq t0 (.int .i64 0) (fun t9 w =>
  gd t9 false (fun K w => K t1 w) (fun t11 w =>
  gd t9 false (lnS t11) (fun t12 w =>
  gd t9 false (boI .eql t12 (.int .i64 0)) (fun t13 w =>
  pk t9 (.bool true) t13 (fun t14 w =>
  gd t14 false (fun K w => K t1 w) (fun t16 w =>
  gd t14 false (lnS t16) (fun t17 w =>
  gd t14 false (fun K w => K t0 w) (fun t18 w =>
  gd t14 false (boI .rem t17 t18) (fun t19 w =>
  gd t14 false (boI .neq t19 (.int .i64 0)) (fun t20 w =>
  pk t14 (.bool true) t20 (fun t21 w =>
  ifb t21
  (K (.tuple #[(.slice none 0 0), (.bool false)]) w)
  (sls 1 t1 none (some t0) (fun t24 w =>
  cl Try.prog 11 #[t24] (fun t25 w =>
  s56_p3 K t0 t1 t25 t0 w) w) w)) w) w) w) w) w) w) w) w) w) w) w
def s56_p4_den (K : Value → World → Prop) : (Nat → Value) → World → Prop := denL Try.prog [(cd (Try.f56.body.getD .skip) [0]), (cd (Try.f56.body.getD .skip) [1, 0, 0]), (cd (Try.f56.body.getD .skip) [1, 0, 1]), (cd (Try.f56.body.getD .skip) [1, 1, 0]), (cd (Try.f56.body.getD .skip) [1, 1, 1, 0, 0])] (s56_p3_den K) (fun i => (fun _ _ => False)) (s56_R K)
theorem s56_p4_ok (K : Value → World → Prop) (s : Nat → Value) (w : World) (h : s56_p4 K (s 0) (s 1) w) : Tr (s56_p4_den K s w) :=
  tr_simple (P := Try.prog) (codes := [(cd (Try.f56.body.getD .skip) [0]), (cd (Try.f56.body.getD .skip) [1, 0, 0]), (cd (Try.f56.body.getD .skip) [1, 0, 1]), (cd (Try.f56.body.getD .skip) [1, 1, 0]), (cd (Try.f56.body.getD .skip) [1, 1, 1, 0, 0])]) (N := (fun s w => s56_p3 K (s 0) (s 1) (s 6) (s 7) w)) (N' := (s56_p3_den K)) (X := (fun i => (fun _ _ => False))) (X' := (fun i => (fun _ _ => False))) (R := s56_R K) (s := s) (w := w) (p := s56_p4 K (s 0) (s 1) w) (q := s56_p4_den K s w) (fun s w h => s56_p3_ok K s w @h) (fun i => tr_id) (by kernel_rfl) (by kernel_rfl) @h
/-- the call, from the text -/
theorem c56 (t0 t1 : Value) {K : Value → World → Prop} {w : World} (h : s56_p4 K t0 t1 w) : cl Try.prog 56 #[t0, t1] K w :=
  calls_of_tr (c := (Try.f56.body.getD .skip)) (fn := Try.f56) (q := s56_p4_den K (st0 #[t0, t1]) w) Try.func56 (by kernel_rfl) (by kernel_rfl) (Nat.le_of_ble_eq_true (by kernel_rfl)) (by kernel_rfl) (by kernel_rfl) (s56_p4_ok K (st0 #[t0, t1]) w @h)

/-! ### function 57 : e2e.octetsm.Xor -/
def s57_R (K : Value → World → Prop) (s : Nat → Value) (w : World) : Prop := retv Try.prog s Try.f57.results.toList (fun vs => K (pack vs) w) w
def s57_p1 (K : Value → World → Prop) (t6 t7 : Value) (w : World) : Prop :=
  K (.tuple #[t6, t7]) w
def s57_p1_den (K : Value → World → Prop) : (Nat → Value) → World → Prop := denL Try.prog [(cd (Try.f57.body.getD .skip) [1, 1, 1, 1, 0]), (cd (Try.f57.body.getD .skip) [1, 1, 1, 1, 1])] (fun _ _ => False) (fun i => (fun _ _ => False)) (s57_R K)
theorem s57_p1_ok (K : Value → World → Prop) (s : Nat → Value) (w : World) (h : s57_p1 K (s 6) (s 7) w) : Tr (s57_p1_den K s w) :=
  tr_simple (P := Try.prog) (codes := [(cd (Try.f57.body.getD .skip) [1, 1, 1, 1, 0]), (cd (Try.f57.body.getD .skip) [1, 1, 1, 1, 1])]) (N := (fun _ _ => False)) (N' := (fun _ _ => False)) (X := (fun i => (fun _ _ => False))) (X' := (fun i => (fun _ _ => False))) (R := s57_R K) (s := s) (w := w) (p := s57_p1 K (s 6) (s 7) w) (q := s57_p1_den K s w) tr_id (fun i => tr_id) (by kernel_rfl) (by kernel_rfl) @h
def s57_p2 (K : Value → World → Prop) (B1 : List Value → World → Prop) (t0 t1 t6 t7 t8 : Value) (w : World) : Prop :=
  boI .add t8 (.int .i64 1) (fun t22 w =>
  B1 [t0, t1, t6, t7, t22] w) w
def s57_p2_den (K : Value → World → Prop) (M1 : (Nat → Value) → World → Prop) : (Nat → Value) → World → Prop := denL Try.prog [(cd (Try.f57.body.getD .skip) [1, 1, 1, 0, 1, 0, 0, 1, 1])] M1 (fun i => (bif Nat.beq i 0 then (s57_p1_den K) else (fun _ _ => False))) (s57_R K)
theorem s57_p2_ok (K : Value → World → Prop) (B1 : List Value → World → Prop) (s : Nat → Value) (w : World) (h : s57_p2 K B1 (s 0) (s 1) (s 6) (s 7) (s 8) w) : Tr (s57_p2_den K (fun s w => B1 [s 0, s 1, s 6, s 7, s 8] w) s w) :=
  tr_simple (P := Try.prog) (codes := [(cd (Try.f57.body.getD .skip) [1, 1, 1, 0, 1, 0, 0, 1, 1])]) (N := (fun s w => B1 [s 0, s 1, s 6, s 7, s 8] w)) (N' := (fun s w => B1 [s 0, s 1, s 6, s 7, s 8] w)) (X := (fun i => (bif Nat.beq i 0 then (fun s w => s57_p1 K (s 6) (s 7) w) else (fun _ _ => False)))) (X' := (fun i => (bif Nat.beq i 0 then (s57_p1_den K) else (fun _ _ => False)))) (R := s57_R K) (s := s) (w := w) (p := s57_p2 K B1 (s 0) (s 1) (s 6) (s 7) (s 8) w) (q := s57_p2_den K (fun s w => B1 [s 0, s 1, s 6, s 7, s 8] w) s w) tr_id (fun i => (tr_bif (fun s w h => s57_p1_ok K s w @h) tr_id)) (by kernel_rfl) (by kernel_rfl) @h
def s57_p3 (K : Value → World → Prop) (B1 : List Value → World → Prop) (t0 t1 t6 t7 t8 : Value) (w : World) : Prop :=
  boI .add t7 (.int .i64 1) (fun t36 w =>
  s57_p2 K B1 t0 t1 t6 t36 t8 w) w
def s57_p3_den (K : Value → World → Prop) (M1 : (Nat → Value) → World → Prop) : (Nat → Value) → World → Prop := denL Try.prog [(cd (Try.f57.body.getD .skip) [1, 1, 1, 0, 1, 0, 0, 1, 0, 0, 1])] (s57_p2_den K M1) (fun i => (bif Nat.beq i 1 then (s57_p2_den K M1) else (bif Nat.beq i 0 then (s57_p1_den K) else (fun _ _ => False)))) (s57_R K)
theorem s57_p3_ok (K : Value → World → Prop) (B1 : List Value → World → Prop) (s : Nat → Value) (w : World) (h : s57_p3 K B1 (s 0) (s 1) (s 6) (s 7) (s 8) w) : Tr (s57_p3_den K (fun s w => B1 [s 0, s 1, s 6, s 7, s 8] w) s w) :=
  tr_simple (P := Try.prog) (codes := [(cd (Try.f57.body.getD .skip) [1, 1, 1, 0, 1, 0, 0, 1, 0, 0, 1])]) (N := (fun s w => s57_p2 K B1 (s 0) (s 1) (s 6) (s 7) (s 8) w)) (N' := (s57_p2_den K (fun s w => B1 [s 0, s 1, s 6, s 7, s 8] w))) (X := (fun i => (bif Nat.beq i 1 then (fun s w => s57_p2 K B1 (s 0) (s 1) (s 6) (s 7) (s 8) w) else (bif Nat.beq i 0 then (fun s w => s57_p1 K (s 6) (s 7) w) else (fun _ _ => False))))) (X' := (fun i => (bif Nat.beq i 1 then (s57_p2_den K (fun s w => B1 [s 0, s 1, s 6, s 7, s 8] w)) else (bif Nat.beq i 0 then (s57_p1_den K) else (fun _ _ => False))))) (R := s57_R K) (s := s) (w := w) (p := s57_p3 K B1 (s 0) (s 1) (s 6) (s 7) (s 8) w) (q := s57_p3_den K (fun s w => B1 [s 0, s 1, s 6, s 7, s 8] w) s w) (fun s w h => s57_p2_ok K B1 s w @h) (fun i => (tr_bif (fun s w h => s57_p2_ok K B1 s w @h) (tr_bif (fun s w h => s57_p1_ok K s w @h) tr_id))) (by kernel_rfl) (by kernel_rfl) @h
def s57_p4_d (K : Value → World → Prop) (B1 : List Value → World → Prop) (t0 t1 t6 t7 t8 : Value) (w0 w : World) : Prop :=
  ixs 1 t0 t8 (fun t27 _ =>
  ld1 t27 (fun t28 _ =>
  ixs 1 t1 t8 (fun t31 _ =>
  ld1 t31 (fun t32 _ =>
  boI .xor t28 t32 (fun t33 _ =>
  ixs 1 t6 t8 (fun t34 _ =>
  st1 t34 t33 (fun w =>
  s57_p3 K B1 t0 t1 t6 t7 t8 w) w) w0) w0) w0) w0) w0) w0
def s57_p4 (K : Value → World → Prop) (B1 : List Value → World → Prop) (t0 t1 t6 t7 t8 : Value) (w : World) : Prop := s57_p4_d K B1 t0 t1 t6 t7 t8 (drw w) (drw w)
def s57_p4_den (K : Value → World → Prop) (M1 : (Nat → Value) → World → Prop) : (Nat → Value) → World → Prop := denL Try.prog [(cd (Try.f57.body.getD .skip) [1, 1, 1, 0, 1, 0, 0, 1, 0, 0, 0])] (s57_p3_den K M1) (fun i => (bif Nat.beq i 1 then (s57_p2_den K M1) else (bif Nat.beq i 0 then (s57_p1_den K) else (fun _ _ => False)))) (s57_R K)
theorem s57_p4_ok (K : Value → World → Prop) (B1 : List Value → World → Prop) (s : Nat → Value) (w : World) (h : s57_p4 K B1 (s 0) (s 1) (s 6) (s 7) (s 8) w) : Tr (s57_p4_den K (fun s w => B1 [s 0, s 1, s 6, s 7, s 8] w) s w) :=
  tr_draw (P := Try.prog) (ops := (ro (cd (Try.f57.body.getD .skip) [1, 1, 1, 0, 1, 0, 0, 1, 0, 0, 0]))) (ms := [0, 0, 0, 0, 12, 28, 0, 0, 192, 448, 1020, 2047, 4095]) (cs := [0, 1, 2, 3, 4, 5, 6, 7, 8, 9, 10, 11]) (N := (fun s w => s57_p3 K B1 (s 0) (s 1) (s 6) (s 7) (s 8) w)) (N' := (s57_p3_den K (fun s w => B1 [s 0, s 1, s 6, s 7, s 8] w))) (s := s) (w := w) (p := s57_p4 K B1 (s 0) (s 1) (s 6) (s 7) (s 8) w) (q := s57_p4_den K (fun s w => B1 [s 0, s 1, s 6, s 7, s 8] w) s w) (by kernel_rfl) (by kernel_rfl) (fun s w h => s57_p3_ok K B1 s w @h) (by kernel_rfl) (by kernel_rfl) @h
def s57_p5 (K : Value → World → Prop) (B1 : List Value → World → Prop) (t0 t1 t6 t7 t8 : Value) (w : World) : Prop :=
  lnS t0 (fun t13 w =>
  boI .lss t8 t13 (fun t14 w =>
  gd t14 true (fun K w => K t8 w) (fun t16 w =>
  gd t14 true (fun K w => K t1 w) (fun t17 w =>
  gd t14 true (lnS t17) (fun t18 w =>
  gd t14 true (boI .lss t16 t18) (fun t19 w =>
  pk t14 t19 (.bool false) (fun t20 w =>
  ifb t20
  (s57_p4 K B1 t0 t1 t6 t7 t8 w)
  (s57_p1 K t6 t7 w)) w) w) w) w) w) w) w
def s57_p5_den (K : Value → World → Prop) (M1 : (Nat → Value) → World → Prop) : (Nat → Value) → World → Prop := denL Try.prog [(cd (Try.f57.body.getD .skip) [1, 1, 1, 0, 1, 0, 0, 0, 0]), (cd (Try.f57.body.getD .skip) [1, 1, 1, 0, 1, 0, 0, 0, 1])] (s57_p4_den K M1) (fun i => (bif Nat.beq i 0 then (s57_p1_den K) else (fun _ _ => False))) (s57_R K)
theorem s57_p5_ok (K : Value → World → Prop) (B1 : List Value → World → Prop) (s : Nat → Value) (w : World) (h : s57_p5 K B1 (s 0) (s 1) (s 6) (s 7) (s 8) w) : Tr (s57_p5_den K (fun s w => B1 [s 0, s 1, s 6, s 7, s 8] w) s w) :=
  tr_simple (P := Try.prog) (codes := [(cd (Try.f57.body.getD .skip) [1, 1, 1, 0, 1, 0, 0, 0, 0]), (cd (Try.f57.body.getD .skip) [1, 1, 1, 0, 1, 0, 0, 0, 1])]) (N := (fun s w => s57_p4 K B1 (s 0) (s 1) (s 6) (s 7) (s 8) w)) (N' := (s57_p4_den K (fun s w => B1 [s 0, s 1, s 6, s 7, s 8] w))) (X := (fun i => (bif Nat.beq i 0 then (fun s w => s57_p1 K (s 6) (s 7) w) else (fun _ _ => False)))) (X' := (fun i => (bif Nat.beq i 0 then (s57_p1_den K) else (fun _ _ => False)))) (R := s57_R K) (s := s) (w := w) (p := s57_p5 K B1 (s 0) (s 1) (s 6) (s 7) (s 8) w) (q := s57_p5_den K (fun s w => B1 [s 0, s 1, s 6, s 7, s 8] w) s w) (fun s w h => s57_p4_ok K B1 s w @h) (fun i => (tr_bif (fun s w h => s57_p1_ok K s w @h) tr_id)) (by kernel_rfl) (by kernel_rfl) @h
def s57_p6_F (K : Value → World → Prop) (B1 : List Value → World → Prop) (l : List Value) (w : World) : Prop :=
  match l with
  | [t0, t1, t6, t7, t8] => s57_p5 K B1 t0 t1 t6 t7 t8 w
  | _ => False
theorem s57_p6_Fe {K : Value → World → Prop} {B1 : List Value → World → Prop} {t0 t1 t6 t7 t8 : Value} {w : World} : s57_p6_F K B1 [t0, t1, t6, t7, t8] w = s57_p5 K B1 t0 t1 t6 t7 t8 w := by kernel_rfl
def s57_p6 (K : Value → World → Prop) (t0 t1 t6 t7 t8 : Value) (w : World) : Prop :=
  LoopL (s57_p6_F K) [t0, t1, t6, t7, t8] w
def s57_p6_den (K : Value → World → Prop) : (Nat → Value) → World → Prop := fun s w => LoopP (fun M1 s w => s57_p5_den K M1 s w) s w
theorem s57_p6_ok (K : Value → World → Prop) (s : Nat → Value) (w : World) (h : s57_p6 K (s 0) (s 1) (s 6) (s 7) (s 8) w) : Tr (s57_p6_den K s w) :=
  tr_loop (G := fun N' s w => s57_p5_den K N' s w) (F := s57_p6_F K) (sel := fun s => [s 0, s 1, s 6, s 7, s 8]) (s := s) (w := w) (p := s57_p6 K (s 0) (s 1) (s 6) (s 7) (s 8) w) (q := s57_p6_den K s w) (fun B s w h => s57_p5_ok K B s w @h) (by kernel_rfl) (by kernel_rfl) @h
def s57_p7 (K : Value → World → Prop) (t0 t1 : Value) (w : World) : Prop :=
  cl Try.prog 11 #[t0] (fun t10 w =>
  s57_p6 K t0 t1 t10 (.int .i64 0) (.int .i64 0) w) w
def s57_p7_den (K : Value → World → Prop) : (Nat → Value) → World → Prop := denL Try.prog [(cd (Try.f57.body.getD .skip) [0]), (cd (Try.f57.body.getD .skip) [1, 0]), (cd (Try.f57.body.getD .skip) [1, 1, 0]), (cd (Try.f57.body.getD .skip) [1, 1, 1, 0, 0])] (s57_p6_den K) (fun i => (fun _ _ => False)) (s57_R K)
theorem s57_p7_ok (K : Value → World → Prop) (s : Nat → Value) (w : World) (h : s57_p7 K (s 0) (s 1) w) : Tr (s57_p7_den K s w) :=
  tr_simple (P := Try.prog) (codes := [(cd (Try.f57.body.getD .skip) [0]), (cd (Try.f57.body.getD .skip) [1, 0]), (cd (Try.f57.body.getD .skip) [1, 1, 0]), (cd (Try.f57.body.getD .skip) [1, 1, 1, 0, 0])]) (N := (fun s w => s57_p6 K (s 0) (s 1) (s 6) (s 7) (s 8) w)) (N' := (s57_p6_den K)) (X := (fun i => (fun _ _ => False))) (X' := (fun i => (fun _ _ => False))) (R := s57_R K) (s := s) (w := w) (p := s57_p7 K (s 0) (s 1) w) (q := s57_p7_den K s w) (fun s w h => s57_p6_ok K s w @h) (fun i => tr_id) (by kernel_rfl) (by kernel_rfl) @h
/-- the call, from the text -/
theorem c57 (t0 t1 : Value) {K : Value → World → Prop} {w : World} (h : s57_p7 K t0 t1 w) : cl Try.prog 57 #[t0, t1] K w :=
  calls_of_tr (c := (Try.f57.body.getD .skip)) (fn := Try.f57) (q := s57_p7_den K (st0 #[t0, t1]) w) Try.func57 (by kernel_rfl) (by kernel_rfl) (Nat.le_of_ble_eq_true (by kernel_rfl)) (by kernel_rfl) (by kernel_rfl) (s57_p7_ok K (st0 #[t0, t1]) w @h)

/-! ### function 59 : (*e2e.octetsm.Machine).pass -/
def s59_R (K : Value → World → Prop) (s : Nat → Value) (w : World) : Prop := retv Try.prog s Try.f59.results.toList (fun vs => K (pack vs) w) w
def s59_p1 (K : Value → World → Prop) (t0 t1 : Value) (w : World) : Prop :=
  nck t0 (fun t8 w =>
  fd 2 t8 (fun t9 w =>
  ld1 t9 (fun t10 w =>
  gd t10 false (fun K w => K t1 w) (fun t12 w =>
  gd t10 false (boI .lss t12 (.int .i64 0)) (fun t13 w =>
  pk t10 (.bool true) t13 (fun t14 w =>
  gd t14 false (fun K w => K t1 w) (fun t16 w =>
  gd t14 false (fun K w => K t0 w) (fun t17 w =>
  gd t14 false (nck t17) (fun t18 w =>
  gd t14 false (fd 1 t18) (fun t19 w =>
  gd t14 false (ld1 t19) (fun t20 w =>
  gd t14 false (lnS t20) (fun t21 w =>
  gd t14 false (boI .gtr t16 t21) (fun t22 w =>
  pk t14 (.bool true) t22 (fun t23 w =>
  ifb t23
  (nck t0 (fun t25 w =>
  fd 2 t25 (fun t26 w =>
  st1 t26 (.bool true) (fun w =>
  K (.tuple #[(.slice none 0 0), (.bool false)]) w) w) w) w)
  (nck t0 (fun t28 w =>
  fd 1 t28 (fun t29 w =>
  ld1 t29 (fun t30 w =>
  sls 1 t30 none (some t1) (fun t32 w =>
  cl Try.prog 11 #[t32] (fun t33 w =>
  nck t0 (fun t36 w =>
  fd 1 t36 (fun t37 w =>
  ld1 t37 (fun t38 w =>
  sls 1 t38 (some t1) none (fun t40 w =>
  cl Try.prog 11 #[t40] (fun t41 w =>
  nck t0 (fun t42 w =>
  fd 1 t42 (fun t43 w =>
  st1 t43 t41 (fun w =>
  K (.tuple #[t33, (.bool true)]) w) w) w) w) w) w) w) w) w) w) w) w) w) w)) w) w) w) w) w) w) w) w) w) w) w) w) w) w
def s59_p1_den (K : Value → World → Prop) : (Nat → Value) → World → Prop := denL Try.prog [(cd (Try.f59.body.getD .skip) [0]), (cd (Try.f59.body.getD .skip) [1, 0, 0]), (cd (Try.f59.body.getD .skip) [1, 0, 1]), (cd (Try.f59.body.getD .skip) [1, 1, 0]), (cd (Try.f59.body.getD .skip) [1, 1, 1, 0]), (cd (Try.f59.body.getD .skip) [1, 1, 1, 1, 0]), (cd (Try.f59.body.getD .skip) [1, 1, 1, 1, 1])] (fun _ _ => False) (fun i => (fun _ _ => False)) (s59_R K)
theorem s59_p1_ok (K : Value → World → Prop) (s : Nat → Value) (w : World) (h : s59_p1 K (s 0) (s 1) w) : Tr (s59_p1_den K s w) :=
  tr_simple (P := Try.prog) (codes := [(cd (Try.f59.body.getD .skip) [0]), (cd (Try.f59.body.getD .skip) [1, 0, 0]), (cd (Try.f59.body.getD .skip) [1, 0, 1]), (cd (Try.f59.body.getD .skip) [1, 1, 0]), (cd (Try.f59.body.getD .skip) [1, 1, 1, 0]), (cd (Try.f59.body.getD .skip) [1, 1, 1, 1, 0]), (cd (Try.f59.body.getD .skip) [1, 1, 1, 1, 1])]) (N := (fun _ _ => False)) (N' := (fun _ _ => False)) (X := (fun i => (fun _ _ => False))) (X' := (fun i => (fun _ _ => False))) (R := s59_R K) (s := s) (w := w) (p := s59_p1 K (s 0) (s 1) w) (q := s59_p1_den K s w) tr_id (fun i => tr_id) (by kernel_rfl) (by kernel_rfl) @h
/-- the call, from the text -/
theorem c59 (t0 t1 : Value) {K : Value → World → Prop} {w : World} (h : s59_p1 K t0 t1 w) : cl Try.prog 59 #[t0, t1] K w :=
  calls_of_tr (c := (Try.f59.body.getD .skip)) (fn := Try.f59) (q := s59_p1_den K (st0 #[t0, t1]) w) Try.func59 (by kernel_rfl) (by kernel_rfl) (Nat.le_of_ble_eq_true (by kernel_rfl)) (by kernel_rfl) (by kernel_rfl) (s59_p1_ok K (st0 #[t0, t1]) w @h)

/-! ### function 60 : (*e2e.octets.Reader).Left -/
def s60_R (K : Value → World → Prop) (s : Nat → Value) (w : World) : Prop := retv Try.prog s Try.f60.results.toList (fun vs => K (pack vs) w) w
def s60_p1 (K : Value → World → Prop) (t2 : Value) (w : World) : Prop :=
  K t2 w
def s60_p1_den (K : Value → World → Prop) : (Nat → Value) → World → Prop := denL Try.prog [(cd (Try.f60.body.getD .skip) [1, 1])] (fun _ _ => False) (fun i => (fun _ _ => False)) (s60_R K)
theorem s60_p1_ok (K : Value → World → Prop) (s : Nat → Value) (w : World) (h : s60_p1 K (s 2) w) : Tr (s60_p1_den K s w) :=
  tr_simple (P := Try.prog) (codes := [(cd (Try.f60.body.getD .skip) [1, 1])]) (N := (fun _ _ => False)) (N' := (fun _ _ => False)) (X := (fun i => (fun _ _ => False))) (X' := (fun i => (fun _ _ => False))) (R := s60_R K) (s := s) (w := w) (p := s60_p1 K (s 2) w) (q := s60_p1_den K s w) tr_id (fun i => tr_id) (by kernel_rfl) (by kernel_rfl) @h
def s60_p2_d (K : Value → World → Prop) (t0 : Value) (w0 w : World) : Prop :=
  nck t0 (fun t4 _ =>
  fd 0 t4 (fun t5 _ =>
  ld1 t5 (fun t6 _ =>
  lnS t6 (fun t7 _ =>
  nck t0 (fun t9 _ =>
  fd 1 t9 (fun t10 _ =>
  ld1 t10 (fun t11 _ =>
  boI .sub t7 t11 (fun t12 _ =>
  s60_p1 K t12 w) w0) w0) w0) w0) w0) w0) w0) w0
def s60_p2 (K : Value → World → Prop) (t0 : Value) (w : World) : Prop := s60_p2_d K t0 (drw w) (drw w)
def s60_p2_den (K : Value → World → Prop) : (Nat → Value) → World → Prop := denL Try.prog [(cd (Try.f60.body.getD .skip) [1, 0])] (s60_p1_den K) (fun i => (fun _ _ => False)) (s60_R K)
theorem s60_p2_ok (K : Value → World → Prop) (s : Nat → Value) (w : World) (h : s60_p2 K (s 0) w) : Tr (s60_p2_den K s w) :=
  tr_draw (P := Try.prog) (ops := (ro (cd (Try.f60.body.getD .skip) [1, 0]))) (ms := [0, 1, 3, 7, 15, 0, 32, 96, 224, 511, 1023]) (cs := [0, 1, 2, 3, 4, 5, 6, 7, 8, 9, 10]) (N := (fun s w => s60_p1 K (s 2) w)) (N' := (s60_p1_den K)) (s := s) (w := w) (p := s60_p2 K (s 0) w) (q := s60_p2_den K s w) (by kernel_rfl) (by kernel_rfl) (fun s w h => s60_p1_ok K s w @h) (by kernel_rfl) (by kernel_rfl) @h
def s60_p3 (K : Value → World → Prop) (t0 : Value) (w : World) : Prop :=
  s60_p2 K t0 w
def s60_p3_den (K : Value → World → Prop) : (Nat → Value) → World → Prop := denL Try.prog [(cd (Try.f60.body.getD .skip) [0])] (s60_p2_den K) (fun i => (fun _ _ => False)) (s60_R K)
theorem s60_p3_ok (K : Value → World → Prop) (s : Nat → Value) (w : World) (h : s60_p3 K (s 0) w) : Tr (s60_p3_den K s w) :=
  tr_simple (P := Try.prog) (codes := [(cd (Try.f60.body.getD .skip) [0])]) (N := (fun s w => s60_p2 K (s 0) w)) (N' := (s60_p2_den K)) (X := (fun i => (fun _ _ => False))) (X' := (fun i => (fun _ _ => False))) (R := s60_R K) (s := s) (w := w) (p := s60_p3 K (s 0) w) (q := s60_p3_den K s w) (fun s w h => s60_p2_ok K s w @h) (fun i => tr_id) (by kernel_rfl) (by kernel_rfl) @h
/-- the call, from the text -/
theorem c60 (t0 : Value) {K : Value → World → Prop} {w : World} (h : s60_p3 K t0 w) : cl Try.prog 60 #[t0] K w :=
  calls_of_tr (c := (Try.f60.body.getD .skip)) (fn := Try.f60) (q := s60_p3_den K (st0 #[t0]) w) Try.func60 (by kernel_rfl) (by kernel_rfl) (Nat.le_of_ble_eq_true (by kernel_rfl)) (by kernel_rfl) (by kernel_rfl) (s60_p3_ok K (st0 #[t0]) w @h)

/-! ### function 61 : e2e.octetsm.Count -/
def s61_R (K : Value → World → Prop) (s : Nat → Value) (w : World) : Prop := retv Try.prog s Try.f61.results.toList (fun vs => K (pack vs) w) w
def s61_p1 (K : Value → World → Prop) (t0 t1 : Value) (w : World) : Prop :=
  boI .eql t1 (.int .i64 0) (fun t6 w =>
  ifb t6
  (K (.int .i64 0) w)
  (boI .rem t0 t1 (fun t9 w =>
  boI .add t9 t1 (fun t11 w =>
  boI .rem t11 t1 (fun t13 w =>
  K t13 w) w) w) w)) w
def s61_p1_den (K : Value → World → Prop) : (Nat → Value) → World → Prop := denL Try.prog [(cd (Try.f61.body.getD .skip) [0]), (cd (Try.f61.body.getD .skip) [1, 0, 0]), (cd (Try.f61.body.getD .skip) [1, 0, 1]), (cd (Try.f61.body.getD .skip) [1, 1, 0]), (cd (Try.f61.body.getD .skip) [1, 1, 1])] (fun _ _ => False) (fun i => (fun _ _ => False)) (s61_R K)
theorem s61_p1_ok (K : Value → World → Prop) (s : Nat → Value) (w : World) (h : s61_p1 K (s 0) (s 1) w) : Tr (s61_p1_den K s w) :=
  tr_simple (P := Try.prog) (codes := [(cd (Try.f61.body.getD .skip) [0]), (cd (Try.f61.body.getD .skip) [1, 0, 0]), (cd (Try.f61.body.getD .skip) [1, 0, 1]), (cd (Try.f61.body.getD .skip) [1, 1, 0]), (cd (Try.f61.body.getD .skip) [1, 1, 1])]) (N := (fun _ _ => False)) (N' := (fun _ _ => False)) (X := (fun i => (fun _ _ => False))) (X' := (fun i => (fun _ _ => False))) (R := s61_R K) (s := s) (w := w) (p := s61_p1 K (s 0) (s 1) w) (q := s61_p1_den K s w) tr_id (fun i => tr_id) (by kernel_rfl) (by kernel_rfl) @h
/-- the call, from the text -/
theorem c61 (t0 t1 : Value) {K : Value → World → Prop} {w : World} (h : s61_p1 K t0 t1 w) : cl Try.prog 61 #[t0, t1] K w :=
  calls_of_tr (c := (Try.f61.body.getD .skip)) (fn := Try.f61) (q := s61_p1_den K (st0 #[t0, t1]) w) Try.func61 (by kernel_rfl) (by kernel_rfl) (Nat.le_of_ble_eq_true (by kernel_rfl)) (by kernel_rfl) (by kernel_rfl) (s61_p1_ok K (st0 #[t0, t1]) w @h)

/-! ### function 62 : e2e.octets.AppendRotatedRight -/
def s62_R (K : Value → World → Prop) (s : Nat → Value) (w : World) : Prop := retv Try.prog s Try.f62.results.toList (fun vs => K (pack vs) w) w
def s62_p1 (K : Value → World → Prop) (t0 : Value) (w : World) : Prop :=
  K t0 w
def s62_p1_den (K : Value → World → Prop) : (Nat → Value) → World → Prop := denL Try.prog [(cd (Try.f62.body.getD .skip) [1, 1, 1, 1, 1, 1, 1, 1, 1, 0]), (cd (Try.f62.body.getD .skip) [1, 1, 1, 1, 1, 1, 1, 1, 1, 1])] (fun _ _ => False) (fun i => (fun _ _ => False)) (s62_R K)
theorem s62_p1_ok (K : Value → World → Prop) (s : Nat → Value) (w : World) (h : s62_p1 K (s 0) w) : Tr (s62_p1_den K s w) :=
  tr_simple (P := Try.prog) (codes := [(cd (Try.f62.body.getD .skip) [1, 1, 1, 1, 1, 1, 1, 1, 1, 0]), (cd (Try.f62.body.getD .skip) [1, 1, 1, 1, 1, 1, 1, 1, 1, 1])]) (N := (fun _ _ => False)) (N' := (fun _ _ => False)) (X := (fun i => (fun _ _ => False))) (X' := (fun i => (fun _ _ => False))) (R := s62_R K) (s := s) (w := w) (p := s62_p1 K (s 0) w) (q := s62_p1_den K s w) tr_id (fun i => tr_id) (by kernel_rfl) (by kernel_rfl) @h
def s62_p2 (K : Value → World → Prop) (B1 : List Value → World → Prop) (t0 t1 t7 t8 t9 t39 t40 : Value) (w : World) : Prop :=
  boI .add t40 (.int .i64 1) (fun t66 w =>
  B1 [t0, t1, t7, t8, t9, t39, t66] w) w
def s62_p2_den (K : Value → World → Prop) (M1 : (Nat → Value) → World → Prop) : (Nat → Value) → World → Prop := denL Try.prog [(cd (Try.f62.body.getD .skip) [1, 1, 1, 1, 1, 1, 1, 1, 0, 1, 0, 0, 1, 1, 1])] M1 (fun i => (bif Nat.beq i 0 then (s62_p1_den K) else (fun _ _ => False))) (s62_R K)
theorem s62_p2_ok (K : Value → World → Prop) (B1 : List Value → World → Prop) (s : Nat → Value) (w : World) (h : s62_p2 K B1 (s 0) (s 1) (s 7) (s 8) (s 9) (s 39) (s 40) w) : Tr (s62_p2_den K (fun s w => B1 [s 0, s 1, s 7, s 8, s 9, s 39, s 40] w) s w) :=
  tr_simple (P := Try.prog) (codes := [(cd (Try.f62.body.getD .skip) [1, 1, 1, 1, 1, 1, 1, 1, 0, 1, 0, 0, 1, 1, 1])]) (N := (fun s w => B1 [s 0, s 1, s 7, s 8, s 9, s 39, s 40] w)) (N' := (fun s w => B1 [s 0, s 1, s 7, s 8, s 9, s 39, s 40] w)) (X := (fun i => (bif Nat.beq i 0 then (fun s w => s62_p1 K (s 0) w) else (fun _ _ => False)))) (X' := (fun i => (bif Nat.beq i 0 then (s62_p1_den K) else (fun _ _ => False)))) (R := s62_R K) (s := s) (w := w) (p := s62_p2 K B1 (s 0) (s 1) (s 7) (s 8) (s 9) (s 39) (s 40) w) (q := s62_p2_den K (fun s w => B1 [s 0, s 1, s 7, s 8, s 9, s 39, s 40] w) s w) tr_id (fun i => (tr_bif (fun s w h => s62_p1_ok K s w @h) tr_id)) (by kernel_rfl) (by kernel_rfl) @h
def s62_p3 (K : Value → World → Prop) (B1 : List Value → World → Prop) (t0 t1 t7 t8 t39 t40 : Value) (w : World) : Prop :=
  boI .add t8 (.int .i64 1) (fun t61 w =>
  lnS t1 (fun t64 w =>
  boI .eql t61 t64 (fun t65 w =>
  ifb t65
  (s62_p2 K B1 t0 t1 t7 (.int .i64 0) t8 t39 t40 w)
  (s62_p2 K B1 t0 t1 t7 t61 t8 t39 t40 w)) w) w) w
def s62_p3_den (K : Value → World → Prop) (M1 : (Nat → Value) → World → Prop) : (Nat → Value) → World → Prop := denL Try.prog [(cd (Try.f62.body.getD .skip) [1, 1, 1, 1, 1, 1, 1, 1, 0, 1, 0, 0, 1, 1, 0, 0, 1, 0]), (cd (Try.f62.body.getD .skip) [1, 1, 1, 1, 1, 1, 1, 1, 0, 1, 0, 0, 1, 1, 0, 0, 1, 1, 0]), (cd (Try.f62.body.getD .skip) [1, 1, 1, 1, 1, 1, 1, 1, 0, 1, 0, 0, 1, 1, 0, 0, 1, 1, 1, 0]), (cd (Try.f62.body.getD .skip) [1, 1, 1, 1, 1, 1, 1, 1, 0, 1, 0, 0, 1, 1, 0, 0, 1, 1, 1, 1])] (s62_p2_den K M1) (fun i => (bif Nat.beq i 1 then (s62_p2_den K M1) else (bif Nat.beq i 0 then (s62_p1_den K) else (fun _ _ => False)))) (s62_R K)
theorem s62_p3_ok (K : Value → World → Prop) (B1 : List Value → World → Prop) (s : Nat → Value) (w : World) (h : s62_p3 K B1 (s 0) (s 1) (s 7) (s 8) (s 39) (s 40) w) : Tr (s62_p3_den K (fun s w => B1 [s 0, s 1, s 7, s 8, s 9, s 39, s 40] w) s w) :=
  tr_simple (P := Try.prog) (codes := [(cd (Try.f62.body.getD .skip) [1, 1, 1, 1, 1, 1, 1, 1, 0, 1, 0, 0, 1, 1, 0, 0, 1, 0]), (cd (Try.f62.body.getD .skip) [1, 1, 1, 1, 1, 1, 1, 1, 0, 1, 0, 0, 1, 1, 0, 0, 1, 1, 0]), (cd (Try.f62.body.getD .skip) [1, 1, 1, 1, 1, 1, 1, 1, 0, 1, 0, 0, 1, 1, 0, 0, 1, 1, 1, 0]), (cd (Try.f62.body.getD .skip) [1, 1, 1, 1, 1, 1, 1, 1, 0, 1, 0, 0, 1, 1, 0, 0, 1, 1, 1, 1])]) (N := (fun s w => s62_p2 K B1 (s 0) (s 1) (s 7) (s 8) (s 9) (s 39) (s 40) w)) (N' := (s62_p2_den K (fun s w => B1 [s 0, s 1, s 7, s 8, s 9, s 39, s 40] w))) (X := (fun i => (bif Nat.beq i 1 then (fun s w => s62_p2 K B1 (s 0) (s 1) (s 7) (s 8) (s 9) (s 39) (s 40) w) else (bif Nat.beq i 0 then (fun s w => s62_p1 K (s 0) w) else (fun _ _ => False))))) (X' := (fun i => (bif Nat.beq i 1 then (s62_p2_den K (fun s w => B1 [s 0, s 1, s 7, s 8, s 9, s 39, s 40] w)) else (bif Nat.beq i 0 then (s62_p1_den K) else (fun _ _ => False))))) (R := s62_R K) (s := s) (w := w) (p := s62_p3 K B1 (s 0) (s 1) (s 7) (s 8) (s 39) (s 40) w) (q := s62_p3_den K (fun s w => B1 [s 0, s 1, s 7, s 8, s 9, s 39, s 40] w) s w) (fun s w h => s62_p2_ok K B1 s w @h) (fun i => (tr_bif (fun s w h => s62_p2_ok K B1 s w @h) (tr_bif (fun s w h => s62_p1_ok K s w @h) tr_id))) (by kernel_rfl) (by kernel_rfl) @h
def s62_p4_d (K : Value → World → Prop) (B1 : List Value → World → Prop) (t0 t1 t7 t8 t9 t39 t40 : Value) (w0 w : World) : Prop :=
  ixs 1 t1 t9 (fun t45 _ =>
  ld1 t45 (fun t46 _ =>
  boI .sub (.int .u64 8) t7 (fun t48 _ =>
  boI .shl t46 t48 (fun t49 _ =>
  ixs 1 t1 t8 (fun t52 _ =>
  ld1 t52 (fun t53 _ =>
  boI .shr t53 t7 (fun t55 _ =>
  boI .or t49 t55 (fun t56 _ =>
  (Below w0.heap.size w0 w ∧
  bsq 5 [(.int .u8 0)] 1 [(some (0, 1), t56)] (fun t57 w =>
  apq 5 [(.int .u8 0)] 1 t0 t57 (fun t58 w =>
  s62_p3 K B1 t58 t1 t7 t8 t39 t40 w) w) w) ∧
  (bsq 5 [(.int .u8 0)] 1 [(some (0, 1), t56)] (fun t57_2 w =>
  Below w0.heap.size w0 w ∧
  apq 5 [(.int .u8 0)] 1 t0 t57_2 (fun t58_2 w =>
  s62_p3 K B1 t58_2 t1 t7 t8 t39 t40 w) w) w)) w0) w0) w0) w0) w0) w0) w0) w0
def s62_p4 (K : Value → World → Prop) (B1 : List Value → World → Prop) (t0 t1 t7 t8 t9 t39 t40 : Value) (w : World) : Prop := s62_p4_d K B1 t0 t1 t7 t8 t9 t39 t40 (drw w) (drw w)
def s62_p4_den (K : Value → World → Prop) (M1 : (Nat → Value) → World → Prop) : (Nat → Value) → World → Prop := denL Try.prog [(cd (Try.f62.body.getD .skip) [1, 1, 1, 1, 1, 1, 1, 1, 0, 1, 0, 0, 1, 1, 0, 0, 0])] (s62_p3_den K M1) (fun i => (bif Nat.beq i 1 then (s62_p2_den K M1) else (bif Nat.beq i 0 then (s62_p1_den K) else (fun _ _ => False)))) (s62_R K)
theorem s62_p4_ok (K : Value → World → Prop) (B1 : List Value → World → Prop) (s : Nat → Value) (w : World) (h : s62_p4 K B1 (s 0) (s 1) (s 7) (s 8) (s 9) (s 39) (s 40) w) : Tr (s62_p4_den K (fun s w => B1 [s 0, s 1, s 7, s 8, s 9, s 39, s 40] w) s w) :=
  tr_draw (P := Try.prog) (ops := (ro (cd (Try.f62.body.getD .skip) [1, 1, 1, 1, 1, 1, 1, 1, 0, 1, 0, 0, 1, 1, 0, 0, 0]))) (ms := [0, 0, 0, 6, 14, 0, 32, 126, 0, 0, 768, 1792, 0, 7936, 16382, 32766, 65535, 131071]) (cs := [1, 2, 3, 4, 5, 6, 7, 8, 9, 10, 11, 12, 13, 14]) (N := (fun s w => s62_p3 K B1 (s 0) (s 1) (s 7) (s 8) (s 39) (s 40) w)) (N' := (s62_p3_den K (fun s w => B1 [s 0, s 1, s 7, s 8, s 9, s 39, s 40] w))) (s := s) (w := w) (p := s62_p4 K B1 (s 0) (s 1) (s 7) (s 8) (s 9) (s 39) (s 40) w) (q := s62_p4_den K (fun s w => B1 [s 0, s 1, s 7, s 8, s 9, s 39, s 40] w) s w) (by kernel_rfl) (by kernel_rfl) (fun s w h => s62_p3_ok K B1 s w @h) (by kernel_rfl) (by kernel_rfl) @h
def s62_p5 (K : Value → World → Prop) (B1 : List Value → World → Prop) (t0 t1 t7 t8 t9 t39 t40 : Value) (w : World) : Prop :=
  boI .lss t40 t39 (fun t41 w =>
  ifb t41
  (s62_p4 K B1 t0 t1 t7 t8 t9 t39 t40 w)
  (s62_p1 K t0 w)) w
def s62_p5_den (K : Value → World → Prop) (M1 : (Nat → Value) → World → Prop) : (Nat → Value) → World → Prop := denL Try.prog [(cd (Try.f62.body.getD .skip) [1, 1, 1, 1, 1, 1, 1, 1, 0, 1, 0, 0, 0]), (cd (Try.f62.body.getD .skip) [1, 1, 1, 1, 1, 1, 1, 1, 0, 1, 0, 0, 1, 0])] (s62_p4_den K M1) (fun i => (bif Nat.beq i 0 then (s62_p1_den K) else (fun _ _ => False))) (s62_R K)
theorem s62_p5_ok (K : Value → World → Prop) (B1 : List Value → World → Prop) (s : Nat → Value) (w : World) (h : s62_p5 K B1 (s 0) (s 1) (s 7) (s 8) (s 9) (s 39) (s 40) w) : Tr (s62_p5_den K (fun s w => B1 [s 0, s 1, s 7, s 8, s 9, s 39, s 40] w) s w) :=
  tr_simple (P := Try.prog) (codes := [(cd (Try.f62.body.getD .skip) [1, 1, 1, 1, 1, 1, 1, 1, 0, 1, 0, 0, 0]), (cd (Try.f62.body.getD .skip) [1, 1, 1, 1, 1, 1, 1, 1, 0, 1, 0, 0, 1, 0])]) (N := (fun s w => s62_p4 K B1 (s 0) (s 1) (s 7) (s 8) (s 9) (s 39) (s 40) w)) (N' := (s62_p4_den K (fun s w => B1 [s 0, s 1, s 7, s 8, s 9, s 39, s 40] w))) (X := (fun i => (bif Nat.beq i 0 then (fun s w => s62_p1 K (s 0) w) else (fun _ _ => False)))) (X' := (fun i => (bif Nat.beq i 0 then (s62_p1_den K) else (fun _ _ => False)))) (R := s62_R K) (s := s) (w := w) (p := s62_p5 K B1 (s 0) (s 1) (s 7) (s 8) (s 9) (s 39) (s 40) w) (q := s62_p5_den K (fun s w => B1 [s 0, s 1, s 7, s 8, s 9, s 39, s 40] w) s w) (fun s w h => s62_p4_ok K B1 s w @h) (fun i => (tr_bif (fun s w h => s62_p1_ok K s w @h) tr_id)) (by kernel_rfl) (by kernel_rfl) @h
def s62_p6_F (K : Value → World → Prop) (B1 : List Value → World → Prop) (l : List Value) (w : World) : Prop :=
  match l with
  | [t0, t1, t7, t8, t9, t39, t40] => s62_p5 K B1 t0 t1 t7 t8 t9 t39 t40 w
  | _ => False
theorem s62_p6_Fe {K : Value → World → Prop} {B1 : List Value → World → Prop} {t0 t1 t7 t8 t9 t39 t40 : Value} {w : World} : s62_p6_F K B1 [t0, t1, t7, t8, t9, t39, t40] w = s62_p5 K B1 t0 t1 t7 t8 t9 t39 t40 w := by kernel_rfl
def s62_p6 (K : Value → World → Prop) (t0 t1 t7 t8 t9 t39 t40 : Value) (w : World) : Prop :=
  LoopL (s62_p6_F K) [t0, t1, t7, t8, t9, t39, t40] w
def s62_p6_den (K : Value → World → Prop) : (Nat → Value) → World → Prop := fun s w => LoopP (fun M1 s w => s62_p5_den K M1 s w) s w
theorem s62_p6_ok (K : Value → World → Prop) (s : Nat → Value) (w : World) (h : s62_p6 K (s 0) (s 1) (s 7) (s 8) (s 9) (s 39) (s 40) w) : Tr (s62_p6_den K s w) :=
  tr_loop (G := fun N' s w => s62_p5_den K N' s w) (F := s62_p6_F K) (sel := fun s => [s 0, s 1, s 7, s 8, s 9, s 39, s 40]) (s := s) (w := w) (p := s62_p6 K (s 0) (s 1) (s 7) (s 8) (s 9) (s 39) (s 40) w) (q := s62_p6_den K s w) (fun B s w h => s62_p5_ok K B s w @h) (by kernel_rfl) (by kernel_rfl) @h
def s62_p7 (K : Value → World → Prop) (t0 t1 t7 t8 t9 : Value) (w : World) : Prop :=
  lnS t1 (fun t39 w =>
  s62_p6 K t0 t1 t7 t8 t9 t39 (.int .i64 0) w) w
def s62_p7_den (K : Value → World → Prop) : (Nat → Value) → World → Prop := denL Try.prog [(cd (Try.f62.body.getD .skip) [1, 1, 1, 1, 1, 1, 1, 1, 0, 0])] (s62_p6_den K) (fun i => (fun _ _ => False)) (s62_R K)
theorem s62_p7_ok (K : Value → World → Prop) (s : Nat → Value) (w : World) (h : s62_p7 K (s 0) (s 1) (s 7) (s 8) (s 9) w) : Tr (s62_p7_den K s w) :=
  tr_simple (P := Try.prog) (codes := [(cd (Try.f62.body.getD .skip) [1, 1, 1, 1, 1, 1, 1, 1, 0, 0])]) (N := (fun s w => s62_p6 K (s 0) (s 1) (s 7) (s 8) (s 9) (s 39) (s 40) w)) (N' := (s62_p6_den K)) (X := (fun i => (fun _ _ => False))) (X' := (fun i => (fun _ _ => False))) (R := s62_R K) (s := s) (w := w) (p := s62_p7 K (s 0) (s 1) (s 7) (s 8) (s 9) w) (q := s62_p7_den K s w) (fun s w h => s62_p6_ok K s w @h) (fun i => tr_id) (by kernel_rfl) (by kernel_rfl) @h
def s62_p8 (K : Value → World → Prop) (t0 t1 t7 t8 : Value) (w : World) : Prop :=
  boI .sub t8 (.int .i64 1) (fun t32 w =>
  boI .lss t32 (.int .i64 0) (fun t34 w =>
  ifb t34
  (lnS t1 (fun t36 w =>
  boI .sub t36 (.int .i64 1) (fun t37 w =>
  s62_p7 K t0 t1 t7 t8 t37 w) w) w)
  (s62_p7 K t0 t1 t7 t8 t32 w)) w) w
def s62_p8_den (K : Value → World → Prop) : (Nat → Value) → World → Prop := denL Try.prog [(cd (Try.f62.body.getD .skip) [1, 1, 1, 1, 1, 1, 0]), (cd (Try.f62.body.getD .skip) [1, 1, 1, 1, 1, 1, 1, 0, 0]), (cd (Try.f62.body.getD .skip) [1, 1, 1, 1, 1, 1, 1, 0, 1])] (s62_p7_den K) (fun i => (fun _ _ => False)) (s62_R K)
theorem s62_p8_ok (K : Value → World → Prop) (s : Nat → Value) (w : World) (h : s62_p8 K (s 0) (s 1) (s 7) (s 8) w) : Tr (s62_p8_den K s w) :=
  tr_simple (P := Try.prog) (codes := [(cd (Try.f62.body.getD .skip) [1, 1, 1, 1, 1, 1, 0]), (cd (Try.f62.body.getD .skip) [1, 1, 1, 1, 1, 1, 1, 0, 0]), (cd (Try.f62.body.getD .skip) [1, 1, 1, 1, 1, 1, 1, 0, 1])]) (N := (fun s w => s62_p7 K (s 0) (s 1) (s 7) (s 8) (s 9) w)) (N' := (s62_p7_den K)) (X := (fun i => (fun _ _ => False))) (X' := (fun i => (fun _ _ => False))) (R := s62_R K) (s := s) (w := w) (p := s62_p8 K (s 0) (s 1) (s 7) (s 8) w) (q := s62_p8_den K s w) (fun s w h => s62_p7_ok K s w @h) (fun i => tr_id) (by kernel_rfl) (by kernel_rfl) @h
def s62_p9 (K : Value → World → Prop) (t0 t1 t2 : Value) (w : World) : Prop :=
  lnS t1 (fun t11 w =>
  boI .eql t11 (.int .i64 0) (fun t12 w =>
  ifb t12
  (K t0 w)
  (lnS t1 (fun t16 w =>
  boI .mul (.int .i64 8) t16 (fun t17 w =>
  cl Try.prog 88 #[t2, t17] (fun t18 w =>
  boI .rem t18 (.int .i64 8) (fun t20 w =>
  cvi .u64 t20 (fun t21 w =>
  lnS t1 (fun t23 w =>
  boI .quo t18 (.int .i64 8) (fun t25 w =>
  boI .sub t23 t25 (fun t26 w =>
  lnS t1 (fun t29 w =>
  boI .eql t26 t29 (fun t30 w =>
  ifb t30
  (s62_p8 K t0 t1 t21 (.int .i64 0) w)
  (s62_p8 K t0 t1 t21 t26 w)) w) w) w) w) w) w) w) w) w) w)) w) w
def s62_p9_den (K : Value → World → Prop) : (Nat → Value) → World → Prop := denL Try.prog [(cd (Try.f62.body.getD .skip) [0]), (cd (Try.f62.body.getD .skip) [1, 0, 0]), (cd (Try.f62.body.getD .skip) [1, 0, 1]), (cd (Try.f62.body.getD .skip) [1, 1, 0]), (cd (Try.f62.body.getD .skip) [1, 1, 1, 0]), (cd (Try.f62.body.getD .skip) [1, 1, 1, 1, 0]), (cd (Try.f62.body.getD .skip) [1, 1, 1, 1, 1, 0, 0]), (cd (Try.f62.body.getD .skip) [1, 1, 1, 1, 1, 0, 1])] (s62_p8_den K) (fun i => (fun _ _ => False)) (s62_R K)
theorem s62_p9_ok (K : Value → World → Prop) (s : Nat → Value) (w : World) (h : s62_p9 K (s 0) (s 1) (s 2) w) : Tr (s62_p9_den K s w) :=
  tr_simple (P := Try.prog) (codes := [(cd (Try.f62.body.getD .skip) [0]), (cd (Try.f62.body.getD .skip) [1, 0, 0]), (cd (Try.f62.body.getD .skip) [1, 0, 1]), (cd (Try.f62.body.getD .skip) [1, 1, 0]), (cd (Try.f62.body.getD .skip) [1, 1, 1, 0]), (cd (Try.f62.body.getD .skip) [1, 1, 1, 1, 0]), (cd (Try.f62.body.getD .skip) [1, 1, 1, 1, 1, 0, 0]), (cd (Try.f62.body.getD .skip) [1, 1, 1, 1, 1, 0, 1])]) (N := (fun s w => s62_p8 K (s 0) (s 1) (s 7) (s 8) w)) (N' := (s62_p8_den K)) (X := (fun i => (fun _ _ => False))) (X' := (fun i => (fun _ _ => False))) (R := s62_R K) (s := s) (w := w) (p := s62_p9 K (s 0) (s 1) (s 2) w) (q := s62_p9_den K s w) (fun s w h => s62_p8_ok K s w @h) (fun i => tr_id) (by kernel_rfl) (by kernel_rfl) @h
/-- the call, from the text -/
theorem c62 (t0 t1 t2 : Value) {K : Value → World → Prop} {w : World} (h : s62_p9 K t0 t1 t2 w) : cl Try.prog 62 #[t0, t1, t2] K w :=
  calls_of_tr (c := (Try.f62.body.getD .skip)) (fn := Try.f62) (q := s62_p9_den K (st0 #[t0, t1, t2]) w) Try.func62 (by kernel_rfl) (by kernel_rfl) (Nat.le_of_ble_eq_true (by kernel_rfl)) (by kernel_rfl) (by kernel_rfl) (s62_p9_ok K (st0 #[t0, t1, t2]) w @h)

/-! ### function 63 : e2e.octets.AllZero -/
def s63_R (K : Value → World → Prop) (s : Nat → Value) (w : World) : Prop := retv Try.prog s Try.f63.results.toList (fun vs => K (pack vs) w) w
def s63_p1 (K : Value → World → Prop) (t3 : Value) (w : World) : Prop :=
  boI .eql t3 (.int .u8 0) (fun t17 w =>
  K t17 w) w
def s63_p1_den (K : Value → World → Prop) : (Nat → Value) → World → Prop := denL Try.prog [(cd (Try.f63.body.getD .skip) [1, 1, 1, 0]), (cd (Try.f63.body.getD .skip) [1, 1, 1, 1])] (fun _ _ => False) (fun i => (fun _ _ => False)) (s63_R K)
theorem s63_p1_ok (K : Value → World → Prop) (s : Nat → Value) (w : World) (h : s63_p1 K (s 3) w) : Tr (s63_p1_den K s w) :=
  tr_simple (P := Try.prog) (codes := [(cd (Try.f63.body.getD .skip) [1, 1, 1, 0]), (cd (Try.f63.body.getD .skip) [1, 1, 1, 1])]) (N := (fun _ _ => False)) (N' := (fun _ _ => False)) (X := (fun i => (fun _ _ => False))) (X' := (fun i => (fun _ _ => False))) (R := s63_R K) (s := s) (w := w) (p := s63_p1 K (s 3) w) (q := s63_p1_den K s w) tr_id (fun i => tr_id) (by kernel_rfl) (by kernel_rfl) @h
def s63_p2 (K : Value → World → Prop) (B1 : List Value → World → Prop) (t3 t6 t7 t8 : Value) (w : World) : Prop :=
  boI .lss t8 t7 (fun t9 w =>
  ifb t9
  (ixs 1 t6 t8 (fun t10 w =>
  ld1 t10 (fun t11 w =>
  boI .or t3 t11 (fun t14 w =>
  boI .add t8 (.int .i64 1) (fun t15 w =>
  B1 [t14, t6, t7, t15] w) w) w) w) w)
  (s63_p1 K t3 w)) w
def s63_p2_den (K : Value → World → Prop) (M1 : (Nat → Value) → World → Prop) : (Nat → Value) → World → Prop := denL Try.prog [(cd (Try.f63.body.getD .skip) [1, 1, 0, 1, 0, 0, 0]), (cd (Try.f63.body.getD .skip) [1, 1, 0, 1, 0, 0, 1, 0]), (cd (Try.f63.body.getD .skip) [1, 1, 0, 1, 0, 0, 1, 1, 0]), (cd (Try.f63.body.getD .skip) [1, 1, 0, 1, 0, 0, 1, 1, 1])] M1 (fun i => (bif Nat.beq i 0 then (s63_p1_den K) else (fun _ _ => False))) (s63_R K)
theorem s63_p2_ok (K : Value → World → Prop) (B1 : List Value → World → Prop) (s : Nat → Value) (w : World) (h : s63_p2 K B1 (s 3) (s 6) (s 7) (s 8) w) : Tr (s63_p2_den K (fun s w => B1 [s 3, s 6, s 7, s 8] w) s w) :=
  tr_simple (P := Try.prog) (codes := [(cd (Try.f63.body.getD .skip) [1, 1, 0, 1, 0, 0, 0]), (cd (Try.f63.body.getD .skip) [1, 1, 0, 1, 0, 0, 1, 0]), (cd (Try.f63.body.getD .skip) [1, 1, 0, 1, 0, 0, 1, 1, 0]), (cd (Try.f63.body.getD .skip) [1, 1, 0, 1, 0, 0, 1, 1, 1])]) (N := (fun s w => B1 [s 3, s 6, s 7, s 8] w)) (N' := (fun s w => B1 [s 3, s 6, s 7, s 8] w)) (X := (fun i => (bif Nat.beq i 0 then (fun s w => s63_p1 K (s 3) w) else (fun _ _ => False)))) (X' := (fun i => (bif Nat.beq i 0 then (s63_p1_den K) else (fun _ _ => False)))) (R := s63_R K) (s := s) (w := w) (p := s63_p2 K B1 (s 3) (s 6) (s 7) (s 8) w) (q := s63_p2_den K (fun s w => B1 [s 3, s 6, s 7, s 8] w) s w) tr_id (fun i => (tr_bif (fun s w h => s63_p1_ok K s w @h) tr_id)) (by kernel_rfl) (by kernel_rfl) @h
def s63_p3_F (K : Value → World → Prop) (B1 : List Value → World → Prop) (l : List Value) (w : World) : Prop :=
  match l with
  | [t3, t6, t7, t8] => s63_p2 K B1 t3 t6 t7 t8 w
  | _ => False
theorem s63_p3_Fe {K : Value → World → Prop} {B1 : List Value → World → Prop} {t3 t6 t7 t8 : Value} {w : World} : s63_p3_F K B1 [t3, t6, t7, t8] w = s63_p2 K B1 t3 t6 t7 t8 w := by kernel_rfl
def s63_p3 (K : Value → World → Prop) (t3 t6 t7 t8 : Value) (w : World) : Prop :=
  LoopL (s63_p3_F K) [t3, t6, t7, t8] w
def s63_p3_den (K : Value → World → Prop) : (Nat → Value) → World → Prop := fun s w => LoopP (fun M1 s w => s63_p2_den K M1 s w) s w
theorem s63_p3_ok (K : Value → World → Prop) (s : Nat → Value) (w : World) (h : s63_p3 K (s 3) (s 6) (s 7) (s 8) w) : Tr (s63_p3_den K s w) :=
  tr_loop (G := fun N' s w => s63_p2_den K N' s w) (F := s63_p3_F K) (sel := fun s => [s 3, s 6, s 7, s 8]) (s := s) (w := w) (p := s63_p3 K (s 3) (s 6) (s 7) (s 8) w) (q := s63_p3_den K s w) (fun B s w h => s63_p2_ok K B s w @h) (by kernel_rfl) (by kernel_rfl) @h
def s63_p4 (K : Value → World → Prop) (t0 : Value) (w : World) : Prop :=
  lnS t0 (fun t7 w =>
  s63_p3 K (.int .u8 0) t0 t7 (.int .i64 0) w) w
def s63_p4_den (K : Value → World → Prop) : (Nat → Value) → World → Prop := denL Try.prog [(cd (Try.f63.body.getD .skip) [0]), (cd (Try.f63.body.getD .skip) [1, 0]), (cd (Try.f63.body.getD .skip) [1, 1, 0, 0])] (s63_p3_den K) (fun i => (fun _ _ => False)) (s63_R K)
theorem s63_p4_ok (K : Value → World → Prop) (s : Nat → Value) (w : World) (h : s63_p4 K (s 0) w) : Tr (s63_p4_den K s w) :=
  tr_simple (P := Try.prog) (codes := [(cd (Try.f63.body.getD .skip) [0]), (cd (Try.f63.body.getD .skip) [1, 0]), (cd (Try.f63.body.getD .skip) [1, 1, 0, 0])]) (N := (fun s w => s63_p3 K (s 3) (s 6) (s 7) (s 8) w)) (N' := (s63_p3_den K)) (X := (fun i => (fun _ _ => False))) (X' := (fun i => (fun _ _ => False))) (R := s63_R K) (s := s) (w := w) (p := s63_p4 K (s 0) w) (q := s63_p4_den K s w) (fun s w h => s63_p3_ok K s w @h) (fun i => tr_id) (by kernel_rfl) (by kernel_rfl) @h
/-- the call, from the text -/
theorem c63 (t0 : Value) {K : Value → World → Prop} {w : World} (h : s63_p4 K t0 w) : cl Try.prog 63 #[t0] K w :=
  calls_of_tr (c := (Try.f63.body.getD .skip)) (fn := Try.f63) (q := s63_p4_den K (st0 #[t0]) w) Try.func63 (by kernel_rfl) (by kernel_rfl) (Nat.le_of_ble_eq_true (by kernel_rfl)) (by kernel_rfl) (by kernel_rfl) (s63_p4_ok K (st0 #[t0]) w @h)

/-! ### function 65 : e2e.octetslaw.sum -/
def s65_R (K : Value → World → Prop) (s : Nat → Value) (w : World) : Prop := retv Try.prog s Try.f65.results.toList (fun vs => K (pack vs) w) w
def s65_p1 (K : Value → World → Prop) (t0 t1 : Value) (w : World) : Prop :=
  cl Try.prog 32 #[t0] (fun t7 w =>
  cl Try.prog 40 #[t7, t1] (fun t10 w =>
  K t7 w) w) w
def s65_p1_den (K : Value → World → Prop) : (Nat → Value) → World → Prop := denL Try.prog [(cd (Try.f65.body.getD .skip) [0]), (cd (Try.f65.body.getD .skip) [1, 0]), (cd (Try.f65.body.getD .skip) [1, 1, 0]), (cd (Try.f65.body.getD .skip) [1, 1, 1, 0]), (cd (Try.f65.body.getD .skip) [1, 1, 1, 1])] (fun _ _ => False) (fun i => (fun _ _ => False)) (s65_R K)
theorem s65_p1_ok (K : Value → World → Prop) (s : Nat → Value) (w : World) (h : s65_p1 K (s 0) (s 1) w) : Tr (s65_p1_den K s w) :=
  tr_simple (P := Try.prog) (codes := [(cd (Try.f65.body.getD .skip) [0]), (cd (Try.f65.body.getD .skip) [1, 0]), (cd (Try.f65.body.getD .skip) [1, 1, 0]), (cd (Try.f65.body.getD .skip) [1, 1, 1, 0]), (cd (Try.f65.body.getD .skip) [1, 1, 1, 1])]) (N := (fun _ _ => False)) (N' := (fun _ _ => False)) (X := (fun i => (fun _ _ => False))) (X' := (fun i => (fun _ _ => False))) (R := s65_R K) (s := s) (w := w) (p := s65_p1 K (s 0) (s 1) w) (q := s65_p1_den K s w) tr_id (fun i => tr_id) (by kernel_rfl) (by kernel_rfl) @h
/-- the call, from the text -/
theorem c65 (t0 t1 : Value) {K : Value → World → Prop} {w : World} (h : s65_p1 K t0 t1 w) : cl Try.prog 65 #[t0, t1] K w :=
  calls_of_tr (c := (Try.f65.body.getD .skip)) (fn := Try.f65) (q := s65_p1_den K (st0 #[t0, t1]) w) Try.func65 (by kernel_rfl) (by kernel_rfl) (Nat.le_of_ble_eq_true (by kernel_rfl)) (by kernel_rfl) (by kernel_rfl) (s65_p1_ok K (st0 #[t0, t1]) w @h)

/-! ### function 66 : e2e.octetslaw.filled -/
def s66_R (K : Value → World → Prop) (s : Nat → Value) (w : World) : Prop := retv Try.prog s Try.f66.results.toList (fun vs => K (pack vs) w) w
def s66_p1 (K : Value → World → Prop) (t5 : Value) (w : World) : Prop :=
  K t5 w
def s66_p1_den (K : Value → World → Prop) : (Nat → Value) → World → Prop := denL Try.prog [(cd (Try.f66.body.getD .skip) [1, 1, 1, 0]), (cd (Try.f66.body.getD .skip) [1, 1, 1, 1])] (fun _ _ => False) (fun i => (fun _ _ => False)) (s66_R K)
theorem s66_p1_ok (K : Value → World → Prop) (s : Nat → Value) (w : World) (h : s66_p1 K (s 5) w) : Tr (s66_p1_den K s w) :=
  tr_simple (P := Try.prog) (codes := [(cd (Try.f66.body.getD .skip) [1, 1, 1, 0]), (cd (Try.f66.body.getD .skip) [1, 1, 1, 1])]) (N := (fun _ _ => False)) (N' := (fun _ _ => False)) (X := (fun i => (fun _ _ => False))) (X' := (fun i => (fun _ _ => False))) (R := s66_R K) (s := s) (w := w) (p := s66_p1 K (s 5) w) (q := s66_p1_den K s w) tr_id (fun i => tr_id) (by kernel_rfl) (by kernel_rfl) @h
def s66_p2 (K : Value → World → Prop) (B1 : List Value → World → Prop) (t1 t5 t10 t11 : Value) (w : World) : Prop :=
  boI .lss t11 t10 (fun t12 w =>
  ifb t12
  (ixs 1 t5 t11 (fun t17 w =>
  st1 t17 t1 (fun w =>
  boI .add t11 (.int .i64 1) (fun t18 w =>
  B1 [t1, t5, t10, t18] w) w) w) w)
  (s66_p1 K t5 w)) w
def s66_p2_den (K : Value → World → Prop) (M1 : (Nat → Value) → World → Prop) : (Nat → Value) → World → Prop := denL Try.prog [(cd (Try.f66.body.getD .skip) [1, 1, 0, 1, 0, 0, 0]), (cd (Try.f66.body.getD .skip) [1, 1, 0, 1, 0, 0, 1, 0]), (cd (Try.f66.body.getD .skip) [1, 1, 0, 1, 0, 0, 1, 1, 0]), (cd (Try.f66.body.getD .skip) [1, 1, 0, 1, 0, 0, 1, 1, 1])] M1 (fun i => (bif Nat.beq i 0 then (s66_p1_den K) else (fun _ _ => False))) (s66_R K)
theorem s66_p2_ok (K : Value → World → Prop) (B1 : List Value → World → Prop) (s : Nat → Value) (w : World) (h : s66_p2 K B1 (s 1) (s 5) (s 10) (s 11) w) : Tr (s66_p2_den K (fun s w => B1 [s 1, s 5, s 10, s 11] w) s w) :=
  tr_simple (P := Try.prog) (codes := [(cd (Try.f66.body.getD .skip) [1, 1, 0, 1, 0, 0, 0]), (cd (Try.f66.body.getD .skip) [1, 1, 0, 1, 0, 0, 1, 0]), (cd (Try.f66.body.getD .skip) [1, 1, 0, 1, 0, 0, 1, 1, 0]), (cd (Try.f66.body.getD .skip) [1, 1, 0, 1, 0, 0, 1, 1, 1])]) (N := (fun s w => B1 [s 1, s 5, s 10, s 11] w)) (N' := (fun s w => B1 [s 1, s 5, s 10, s 11] w)) (X := (fun i => (bif Nat.beq i 0 then (fun s w => s66_p1 K (s 5) w) else (fun _ _ => False)))) (X' := (fun i => (bif Nat.beq i 0 then (s66_p1_den K) else (fun _ _ => False)))) (R := s66_R K) (s := s) (w := w) (p := s66_p2 K B1 (s 1) (s 5) (s 10) (s 11) w) (q := s66_p2_den K (fun s w => B1 [s 1, s 5, s 10, s 11] w) s w) tr_id (fun i => (tr_bif (fun s w h => s66_p1_ok K s w @h) tr_id)) (by kernel_rfl) (by kernel_rfl) @h
def s66_p3_F (K : Value → World → Prop) (B1 : List Value → World → Prop) (l : List Value) (w : World) : Prop :=
  match l with
  | [t1, t5, t10, t11] => s66_p2 K B1 t1 t5 t10 t11 w
  | _ => False
theorem s66_p3_Fe {K : Value → World → Prop} {B1 : List Value → World → Prop} {t1 t5 t10 t11 : Value} {w : World} : s66_p3_F K B1 [t1, t5, t10, t11] w = s66_p2 K B1 t1 t5 t10 t11 w := by kernel_rfl
def s66_p3 (K : Value → World → Prop) (t1 t5 t10 t11 : Value) (w : World) : Prop :=
  LoopL (s66_p3_F K) [t1, t5, t10, t11] w
def s66_p3_den (K : Value → World → Prop) : (Nat → Value) → World → Prop := fun s w => LoopP (fun M1 s w => s66_p2_den K M1 s w) s w
theorem s66_p3_ok (K : Value → World → Prop) (s : Nat → Value) (w : World) (h : s66_p3 K (s 1) (s 5) (s 10) (s 11) w) : Tr (s66_p3_den K s w) :=
  tr_loop (G := fun N' s w => s66_p2_den K N' s w) (F := s66_p3_F K) (sel := fun s => [s 1, s 5, s 10, s 11]) (s := s) (w := w) (p := s66_p3 K (s 1) (s 5) (s 10) (s 11) w) (q := s66_p3_den K s w) (fun B s w h => s66_p2_ok K B s w @h) (by kernel_rfl) (by kernel_rfl) @h
def s66_p4 (K : Value → World → Prop) (t0 t1 : Value) (w : World) : Prop :=
  mks 5 [(.int .u8 0)] 1 t0 t0 (fun t8 w =>
  lnS t8 (fun t10 w =>
  s66_p3 K t1 t8 t10 (.int .i64 0) w) w) w
def s66_p4_den (K : Value → World → Prop) : (Nat → Value) → World → Prop := denL Try.prog [(cd (Try.f66.body.getD .skip) [0]), (cd (Try.f66.body.getD .skip) [1, 0]), (cd (Try.f66.body.getD .skip) [1, 1, 0, 0])] (s66_p3_den K) (fun i => (fun _ _ => False)) (s66_R K)
theorem s66_p4_ok (K : Value → World → Prop) (s : Nat → Value) (w : World) (h : s66_p4 K (s 0) (s 1) w) : Tr (s66_p4_den K s w) :=
  tr_simple (P := Try.prog) (codes := [(cd (Try.f66.body.getD .skip) [0]), (cd (Try.f66.body.getD .skip) [1, 0]), (cd (Try.f66.body.getD .skip) [1, 1, 0, 0])]) (N := (fun s w => s66_p3 K (s 1) (s 5) (s 10) (s 11) w)) (N' := (s66_p3_den K)) (X := (fun i => (fun _ _ => False))) (X' := (fun i => (fun _ _ => False))) (R := s66_R K) (s := s) (w := w) (p := s66_p4 K (s 0) (s 1) w) (q := s66_p4_den K s w) (fun s w h => s66_p3_ok K s w @h) (fun i => tr_id) (by kernel_rfl) (by kernel_rfl) @h
/-- the call, from the text -/
theorem c66 (t0 t1 : Value) {K : Value → World → Prop} {w : World} (h : s66_p4 K t0 t1 w) : cl Try.prog 66 #[t0, t1] K w :=
  calls_of_tr (c := (Try.f66.body.getD .skip)) (fn := Try.f66) (q := s66_p4_den K (st0 #[t0, t1]) w) Try.func66 (by kernel_rfl) (by kernel_rfl) (Nat.le_of_ble_eq_true (by kernel_rfl)) (by kernel_rfl) (by kernel_rfl) (s66_p4_ok K (st0 #[t0, t1]) w @h)

/-! ### function 67 : e2e.octets.WordsBE32 -/
def s67_R (K : Value → World → Prop) (s : Nat → Value) (w : World) : Prop := retv Try.prog s Try.f67.results.toList (fun vs => K (pack vs) w) w
def s67_p1 (K : Value → World → Prop) (w : World) : Prop :=
  K (.bool true) w
def s67_p1_den (K : Value → World → Prop) : (Nat → Value) → World → Prop := denL Try.prog [(cd (Try.f67.body.getD .skip) [1, 1, 1, 0]), (cd (Try.f67.body.getD .skip) [1, 1, 1, 1])] (fun _ _ => False) (fun i => (fun _ _ => False)) (s67_R K)
theorem s67_p1_ok (K : Value → World → Prop) (s : Nat → Value) (w : World) (h : s67_p1 K w) : Tr (s67_p1_den K s w) :=
  tr_simple (P := Try.prog) (codes := [(cd (Try.f67.body.getD .skip) [1, 1, 1, 0]), (cd (Try.f67.body.getD .skip) [1, 1, 1, 1])]) (N := (fun _ _ => False)) (N' := (fun _ _ => False)) (X := (fun i => (fun _ _ => False))) (X' := (fun i => (fun _ _ => False))) (R := s67_R K) (s := s) (w := w) (p := s67_p1 K w) (q := s67_p1_den K s w) tr_id (fun i => tr_id) (by kernel_rfl) (by kernel_rfl) @h
def s67_p2 (K : Value → World → Prop) (B1 : List Value → World → Prop) (t0 t1 t13 t14 : Value) (w : World) : Prop :=
  boI .lss t14 t13 (fun t15 w =>
  ifb t15
  (boI .mul (.int .i64 4) t14 (fun t21 w =>
  sls 1 t1 (some t21) none (fun t22 w =>
  cl Try.prog 68 #[t22] (fun t23 w =>
  ixs 1 t0 t14 (fun t24 w =>
  st1 t24 t23 (fun w =>
  boI .add t14 (.int .i64 1) (fun t25 w =>
  B1 [t0, t1, t13, t25] w) w) w) w) w) w) w)
  (s67_p1 K w)) w
def s67_p2_den (K : Value → World → Prop) (M1 : (Nat → Value) → World → Prop) : (Nat → Value) → World → Prop := denL Try.prog [(cd (Try.f67.body.getD .skip) [1, 1, 0, 1, 0, 0, 0]), (cd (Try.f67.body.getD .skip) [1, 1, 0, 1, 0, 0, 1, 0]), (cd (Try.f67.body.getD .skip) [1, 1, 0, 1, 0, 0, 1, 1, 0]), (cd (Try.f67.body.getD .skip) [1, 1, 0, 1, 0, 0, 1, 1, 1])] M1 (fun i => (bif Nat.beq i 0 then (s67_p1_den K) else (fun _ _ => False))) (s67_R K)
theorem s67_p2_ok (K : Value → World → Prop) (B1 : List Value → World → Prop) (s : Nat → Value) (w : World) (h : s67_p2 K B1 (s 0) (s 1) (s 13) (s 14) w) : Tr (s67_p2_den K (fun s w => B1 [s 0, s 1, s 13, s 14] w) s w) :=
  tr_simple (P := Try.prog) (codes := [(cd (Try.f67.body.getD .skip) [1, 1, 0, 1, 0, 0, 0]), (cd (Try.f67.body.getD .skip) [1, 1, 0, 1, 0, 0, 1, 0]), (cd (Try.f67.body.getD .skip) [1, 1, 0, 1, 0, 0, 1, 1, 0]), (cd (Try.f67.body.getD .skip) [1, 1, 0, 1, 0, 0, 1, 1, 1])]) (N := (fun s w => B1 [s 0, s 1, s 13, s 14] w)) (N' := (fun s w => B1 [s 0, s 1, s 13, s 14] w)) (X := (fun i => (bif Nat.beq i 0 then (fun s w => s67_p1 K w) else (fun _ _ => False)))) (X' := (fun i => (bif Nat.beq i 0 then (s67_p1_den K) else (fun _ _ => False)))) (R := s67_R K) (s := s) (w := w) (p := s67_p2 K B1 (s 0) (s 1) (s 13) (s 14) w) (q := s67_p2_den K (fun s w => B1 [s 0, s 1, s 13, s 14] w) s w) tr_id (fun i => (tr_bif (fun s w h => s67_p1_ok K s w @h) tr_id)) (by kernel_rfl) (by kernel_rfl) @h
def s67_p3_F (K : Value → World → Prop) (B1 : List Value → World → Prop) (l : List Value) (w : World) : Prop :=
  match l with
  | [t0, t1, t13, t14] => s67_p2 K B1 t0 t1 t13 t14 w
  | _ => False
theorem s67_p3_Fe {K : Value → World → Prop} {B1 : List Value → World → Prop} {t0 t1 t13 t14 : Value} {w : World} : s67_p3_F K B1 [t0, t1, t13, t14] w = s67_p2 K B1 t0 t1 t13 t14 w := by kernel_rfl
def s67_p3 (K : Value → World → Prop) (t0 t1 t13 t14 : Value) (w : World) : Prop :=
  LoopL (s67_p3_F K) [t0, t1, t13, t14] w
def s67_p3_den (K : Value → World → Prop) : (Nat → Value) → World → Prop := fun s w => LoopP (fun M1 s w => s67_p2_den K M1 s w) s w
theorem s67_p3_ok (K : Value → World → Prop) (s : Nat → Value) (w : World) (h : s67_p3 K (s 0) (s 1) (s 13) (s 14) w) : Tr (s67_p3_den K s w) :=
  tr_loop (G := fun N' s w => s67_p2_den K N' s w) (F := s67_p3_F K) (sel := fun s => [s 0, s 1, s 13, s 14]) (s := s) (w := w) (p := s67_p3 K (s 0) (s 1) (s 13) (s 14) w) (q := s67_p3_den K s w) (fun B s w h => s67_p2_ok K B s w @h) (by kernel_rfl) (by kernel_rfl) @h
def s67_p4 (K : Value → World → Prop) (t0 t1 : Value) (w : World) : Prop :=
  lnS t1 (fun t7 w =>
  boI .quo t7 (.int .i64 4) (fun t8 w =>
  lnS t0 (fun t10 w =>
  boI .lss t8 t10 (fun t11 w =>
  ifb t11
  (K (.bool false) w)
  (lnS t0 (fun t13 w =>
  s67_p3 K t0 t1 t13 (.int .i64 0) w) w)) w) w) w) w
def s67_p4_den (K : Value → World → Prop) : (Nat → Value) → World → Prop := denL Try.prog [(cd (Try.f67.body.getD .skip) [0]), (cd (Try.f67.body.getD .skip) [1, 0, 0]), (cd (Try.f67.body.getD .skip) [1, 0, 1]), (cd (Try.f67.body.getD .skip) [1, 1, 0, 0])] (s67_p3_den K) (fun i => (fun _ _ => False)) (s67_R K)
theorem s67_p4_ok (K : Value → World → Prop) (s : Nat → Value) (w : World) (h : s67_p4 K (s 0) (s 1) w) : Tr (s67_p4_den K s w) :=
  tr_simple (P := Try.prog) (codes := [(cd (Try.f67.body.getD .skip) [0]), (cd (Try.f67.body.getD .skip) [1, 0, 0]), (cd (Try.f67.body.getD .skip) [1, 0, 1]), (cd (Try.f67.body.getD .skip) [1, 1, 0, 0])]) (N := (fun s w => s67_p3 K (s 0) (s 1) (s 13) (s 14) w)) (N' := (s67_p3_den K)) (X := (fun i => (fun _ _ => False))) (X' := (fun i => (fun _ _ => False))) (R := s67_R K) (s := s) (w := w) (p := s67_p4 K (s 0) (s 1) w) (q := s67_p4_den K s w) (fun s w h => s67_p3_ok K s w @h) (fun i => tr_id) (by kernel_rfl) (by kernel_rfl) @h
/-- the call, from the text -/
theorem c67 (t0 t1 : Value) {K : Value → World → Prop} {w : World} (h : s67_p4 K t0 t1 w) : cl Try.prog 67 #[t0, t1] K w :=
  calls_of_tr (c := (Try.f67.body.getD .skip)) (fn := Try.f67) (q := s67_p4_den K (st0 #[t0, t1]) w) Try.func67 (by kernel_rfl) (by kernel_rfl) (Nat.le_of_ble_eq_true (by kernel_rfl)) (by kernel_rfl) (by kernel_rfl) (s67_p4_ok K (st0 #[t0, t1]) w @h)

/-! ### function 68 : e2e.octets.BE32 -/
def s68_R (K : Value → World → Prop) (s : Nat → Value) (w : World) : Prop := retv Try.prog s Try.f68.results.toList (fun vs => K (pack vs) w) w
def s68_p1 (K : Value → World → Prop) (t2 : Value) (w : World) : Prop :=
  K t2 w
def s68_p1_den (K : Value → World → Prop) : (Nat → Value) → World → Prop := denL Try.prog [(cd (Try.f68.body.getD .skip) [1, 1, 1])] (fun _ _ => False) (fun i => (fun _ _ => False)) (s68_R K)
theorem s68_p1_ok (K : Value → World → Prop) (s : Nat → Value) (w : World) (h : s68_p1 K (s 2) w) : Tr (s68_p1_den K s w) :=
  tr_simple (P := Try.prog) (codes := [(cd (Try.f68.body.getD .skip) [1, 1, 1])]) (N := (fun _ _ => False)) (N' := (fun _ _ => False)) (X := (fun i => (fun _ _ => False))) (X' := (fun i => (fun _ _ => False))) (R := s68_R K) (s := s) (w := w) (p := s68_p1 K (s 2) w) (q := s68_p1_den K s w) tr_id (fun i => tr_id) (by kernel_rfl) (by kernel_rfl) @h
def s68_p2_d (K : Value → World → Prop) (t0 : Value) (w0 w : World) : Prop :=
  ixs 1 t0 (.int .i64 0) (fun t7 _ =>
  ld1 t7 (fun t8 _ =>
  cvi .u32 t8 (fun t9 _ =>
  boI .shl t9 (.int .u64 24) (fun t10 _ =>
  ixs 1 t0 (.int .i64 1) (fun t12 _ =>
  ld1 t12 (fun t13 _ =>
  cvi .u32 t13 (fun t14 _ =>
  boI .shl t14 (.int .u64 16) (fun t15 _ =>
  boI .or t10 t15 (fun t16 _ =>
  ixs 1 t0 (.int .i64 2) (fun t18 _ =>
  ld1 t18 (fun t19 _ =>
  cvi .u32 t19 (fun t20 _ =>
  boI .shl t20 (.int .u64 8) (fun t21 _ =>
  boI .or t16 t21 (fun t22 _ =>
  ixs 1 t0 (.int .i64 3) (fun t24 _ =>
  ld1 t24 (fun t25 _ =>
  cvi .u32 t25 (fun t26 _ =>
  boI .or t22 t26 (fun t27 _ =>
  s68_p1 K t27 w) w0) w0) w0) w0) w0) w0) w0) w0) w0) w0) w0) w0) w0) w0) w0) w0) w0) w0
def s68_p2 (K : Value → World → Prop) (t0 : Value) (w : World) : Prop := s68_p2_d K t0 (drw w) (drw w)
def s68_p2_den (K : Value → World → Prop) : (Nat → Value) → World → Prop := denL Try.prog [(cd (Try.f68.body.getD .skip) [1, 1, 0])] (s68_p1_den K) (fun i => (fun _ _ => False)) (s68_R K)
theorem s68_p2_ok (K : Value → World → Prop) (s : Nat → Value) (w : World) (h : s68_p2 K (s 0) w) : Tr (s68_p2_den K s w) :=
  tr_draw (P := Try.prog) (ops := (ro (cd (Try.f68.body.getD .skip) [1, 1, 0]))) (ms := [0, 1, 3, 7, 15, 0, 32, 96, 224, 480, 1023, 0, 2048, 6144, 14336, 30720, 65535, 0, 131072, 393216, 917504, 2097151, 4194303]) (cs := [0, 1, 2, 3, 4, 5, 6, 7, 8, 9, 10, 11, 12, 13, 14, 15, 16, 17, 18, 19, 20, 21, 22]) (N := (fun s w => s68_p1 K (s 2) w)) (N' := (s68_p1_den K)) (s := s) (w := w) (p := s68_p2 K (s 0) w) (q := s68_p2_den K s w) (by kernel_rfl) (by kernel_rfl) (fun s w h => s68_p1_ok K s w @h) (by kernel_rfl) (by kernel_rfl) @h
def s68_p3 (K : Value → World → Prop) (t0 : Value) (w : World) : Prop :=
  ixs 1 t0 (.int .i64 3) (fun t4 w =>
  ld1 t4 (fun t5 w =>
  s68_p2 K t0 w) w) w
def s68_p3_den (K : Value → World → Prop) : (Nat → Value) → World → Prop := denL Try.prog [(cd (Try.f68.body.getD .skip) [0]), (cd (Try.f68.body.getD .skip) [1, 0])] (s68_p2_den K) (fun i => (fun _ _ => False)) (s68_R K)
theorem s68_p3_ok (K : Value → World → Prop) (s : Nat → Value) (w : World) (h : s68_p3 K (s 0) w) : Tr (s68_p3_den K s w) :=
  tr_simple (P := Try.prog) (codes := [(cd (Try.f68.body.getD .skip) [0]), (cd (Try.f68.body.getD .skip) [1, 0])]) (N := (fun s w => s68_p2 K (s 0) w)) (N' := (s68_p2_den K)) (X := (fun i => (fun _ _ => False))) (X' := (fun i => (fun _ _ => False))) (R := s68_R K) (s := s) (w := w) (p := s68_p3 K (s 0) w) (q := s68_p3_den K s w) (fun s w h => s68_p2_ok K s w @h) (fun i => tr_id) (by kernel_rfl) (by kernel_rfl) @h
/-- the call, from the text -/
theorem c68 (t0 : Value) {K : Value → World → Prop} {w : World} (h : s68_p3 K t0 w) : cl Try.prog 68 #[t0] K w :=
  calls_of_tr (c := (Try.f68.body.getD .skip)) (fn := Try.f68) (q := s68_p3_den K (st0 #[t0]) w) Try.func68 (by kernel_rfl) (by kernel_rfl) (Nat.le_of_ble_eq_true (by kernel_rfl)) (by kernel_rfl) (by kernel_rfl) (s68_p3_ok K (st0 #[t0]) w @h)

/-! ### function 69 : e2e.octets.WordsLE32 -/
def s69_R (K : Value → World → Prop) (s : Nat → Value) (w : World) : Prop := retv Try.prog s Try.f69.results.toList (fun vs => K (pack vs) w) w
def s69_p1 (K : Value → World → Prop) (w : World) : Prop :=
  K (.bool true) w
def s69_p1_den (K : Value → World → Prop) : (Nat → Value) → World → Prop := denL Try.prog [(cd (Try.f69.body.getD .skip) [1, 1, 1, 0]), (cd (Try.f69.body.getD .skip) [1, 1, 1, 1])] (fun _ _ => False) (fun i => (fun _ _ => False)) (s69_R K)
theorem s69_p1_ok (K : Value → World → Prop) (s : Nat → Value) (w : World) (h : s69_p1 K w) : Tr (s69_p1_den K s w) :=
  tr_simple (P := Try.prog) (codes := [(cd (Try.f69.body.getD .skip) [1, 1, 1, 0]), (cd (Try.f69.body.getD .skip) [1, 1, 1, 1])]) (N := (fun _ _ => False)) (N' := (fun _ _ => False)) (X := (fun i => (fun _ _ => False))) (X' := (fun i => (fun _ _ => False))) (R := s69_R K) (s := s) (w := w) (p := s69_p1 K w) (q := s69_p1_den K s w) tr_id (fun i => tr_id) (by kernel_rfl) (by kernel_rfl) @h
def s69_p2 (K : Value → World → Prop) (B1 : List Value → World → Prop) (t0 t1 t13 t14 : Value) (w : World) : Prop :=
  boI .lss t14 t13 (fun t15 w =>
  ifb t15
  (boI .mul (.int .i64 4) t14 (fun t21 w =>
  sls 1 t1 (some t21) none (fun t22 w =>
  cl Try.prog 70 #[t22] (fun t23 w =>
  ixs 1 t0 t14 (fun t24 w =>
  st1 t24 t23 (fun w =>
  boI .add t14 (.int .i64 1) (fun t25 w =>
  B1 [t0, t1, t13, t25] w) w) w) w) w) w) w)
  (s69_p1 K w)) w
def s69_p2_den (K : Value → World → Prop) (M1 : (Nat → Value) → World → Prop) : (Nat → Value) → World → Prop := denL Try.prog [(cd (Try.f69.body.getD .skip) [1, 1, 0, 1, 0, 0, 0]), (cd (Try.f69.body.getD .skip) [1, 1, 0, 1, 0, 0, 1, 0]), (cd (Try.f69.body.getD .skip) [1, 1, 0, 1, 0, 0, 1, 1, 0]), (cd (Try.f69.body.getD .skip) [1, 1, 0, 1, 0, 0, 1, 1, 1])] M1 (fun i => (bif Nat.beq i 0 then (s69_p1_den K) else (fun _ _ => False))) (s69_R K)
theorem s69_p2_ok (K : Value → World → Prop) (B1 : List Value → World → Prop) (s : Nat → Value) (w : World) (h : s69_p2 K B1 (s 0) (s 1) (s 13) (s 14) w) : Tr (s69_p2_den K (fun s w => B1 [s 0, s 1, s 13, s 14] w) s w) :=
  tr_simple (P := Try.prog) (codes := [(cd (Try.f69.body.getD .skip) [1, 1, 0, 1, 0, 0, 0]), (cd (Try.f69.body.getD .skip) [1, 1, 0, 1, 0, 0, 1, 0]), (cd (Try.f69.body.getD .skip) [1, 1, 0, 1, 0, 0, 1, 1, 0]), (cd (Try.f69.body.getD .skip) [1, 1, 0, 1, 0, 0, 1, 1, 1])]) (N := (fun s w => B1 [s 0, s 1, s 13, s 14] w)) (N' := (fun s w => B1 [s 0, s 1, s 13, s 14] w)) (X := (fun i => (bif Nat.beq i 0 then (fun s w => s69_p1 K w) else (fun _ _ => False)))) (X' := (fun i => (bif Nat.beq i 0 then (s69_p1_den K) else (fun _ _ => False)))) (R := s69_R K) (s := s) (w := w) (p := s69_p2 K B1 (s 0) (s 1) (s 13) (s 14) w) (q := s69_p2_den K (fun s w => B1 [s 0, s 1, s 13, s 14] w) s w) tr_id (fun i => (tr_bif (fun s w h => s69_p1_ok K s w @h) tr_id)) (by kernel_rfl) (by kernel_rfl) @h
def s69_p3_F (K : Value → World → Prop) (B1 : List Value → World → Prop) (l : List Value) (w : World) : Prop :=
  match l with
  | [t0, t1, t13, t14] => s69_p2 K B1 t0 t1 t13 t14 w
  | _ => False
theorem s69_p3_Fe {K : Value → World → Prop} {B1 : List Value → World → Prop} {t0 t1 t13 t14 : Value} {w : World} : s69_p3_F K B1 [t0, t1, t13, t14] w = s69_p2 K B1 t0 t1 t13 t14 w := by kernel_rfl
def s69_p3 (K : Value → World → Prop) (t0 t1 t13 t14 : Value) (w : World) : Prop :=
  LoopL (s69_p3_F K) [t0, t1, t13, t14] w
def s69_p3_den (K : Value → World → Prop) : (Nat → Value) → World → Prop := fun s w => LoopP (fun M1 s w => s69_p2_den K M1 s w) s w
theorem s69_p3_ok (K : Value → World → Prop) (s : Nat → Value) (w : World) (h : s69_p3 K (s 0) (s 1) (s 13) (s 14) w) : Tr (s69_p3_den K s w) :=
  tr_loop (G := fun N' s w => s69_p2_den K N' s w) (F := s69_p3_F K) (sel := fun s => [s 0, s 1, s 13, s 14]) (s := s) (w := w) (p := s69_p3 K (s 0) (s 1) (s 13) (s 14) w) (q := s69_p3_den K s w) (fun B s w h => s69_p2_ok K B s w @h) (by kernel_rfl) (by kernel_rfl) @h
def s69_p4 (K : Value → World → Prop) (t0 t1 : Value) (w : World) : Prop :=
  lnS t1 (fun t7 w =>
  boI .quo t7 (.int .i64 4) (fun t8 w =>
  lnS t0 (fun t10 w =>
  boI .lss t8 t10 (fun t11 w =>
  ifb t11
  (K (.bool false) w)
  (lnS t0 (fun t13 w =>
  s69_p3 K t0 t1 t13 (.int .i64 0) w) w)) w) w) w) w
def s69_p4_den (K : Value → World → Prop) : (Nat → Value) → World → Prop := denL Try.prog [(cd (Try.f69.body.getD .skip) [0]), (cd (Try.f69.body.getD .skip) [1, 0, 0]), (cd (Try.f69.body.getD .skip) [1, 0, 1]), (cd (Try.f69.body.getD .skip) [1, 1, 0, 0])] (s69_p3_den K) (fun i => (fun _ _ => False)) (s69_R K)
theorem s69_p4_ok (K : Value → World → Prop) (s : Nat → Value) (w : World) (h : s69_p4 K (s 0) (s 1) w) : Tr (s69_p4_den K s w) :=
  tr_simple (P := Try.prog) (codes := [(cd (Try.f69.body.getD .skip) [0]), (cd (Try.f69.body.getD .skip) [1, 0, 0]), (cd (Try.f69.body.getD .skip) [1, 0, 1]), (cd (Try.f69.body.getD .skip) [1, 1, 0, 0])]) (N := (fun s w => s69_p3 K (s 0) (s 1) (s 13) (s 14) w)) (N' := (s69_p3_den K)) (X := (fun i => (fun _ _ => False))) (X' := (fun i => (fun _ _ => False))) (R := s69_R K) (s := s) (w := w) (p := s69_p4 K (s 0) (s 1) w) (q := s69_p4_den K s w) (fun s w h => s69_p3_ok K s w @h) (fun i => tr_id) (by kernel_rfl) (by kernel_rfl) @h
/-- the call, from the text -/
theorem c69 (t0 t1 : Value) {K : Value → World → Prop} {w : World} (h : s69_p4 K t0 t1 w) : cl Try.prog 69 #[t0, t1] K w :=
  calls_of_tr (c := (Try.f69.body.getD .skip)) (fn := Try.f69) (q := s69_p4_den K (st0 #[t0, t1]) w) Try.func69 (by kernel_rfl) (by kernel_rfl) (Nat.le_of_ble_eq_true (by kernel_rfl)) (by kernel_rfl) (by kernel_rfl) (s69_p4_ok K (st0 #[t0, t1]) w @h)

/-! ### function 70 : e2e.octets.LE32 -/
def s70_R (K : Value → World → Prop) (s : Nat → Value) (w : World) : Prop := retv Try.prog s Try.f70.results.toList (fun vs => K (pack vs) w) w
def s70_p1 (K : Value → World → Prop) (t2 : Value) (w : World) : Prop :=
  K t2 w
def s70_p1_den (K : Value → World → Prop) : (Nat → Value) → World → Prop := denL Try.prog [(cd (Try.f70.body.getD .skip) [1, 1, 1])] (fun _ _ => False) (fun i => (fun _ _ => False)) (s70_R K)
theorem s70_p1_ok (K : Value → World → Prop) (s : Nat → Value) (w : World) (h : s70_p1 K (s 2) w) : Tr (s70_p1_den K s w) :=
  tr_simple (P := Try.prog) (codes := [(cd (Try.f70.body.getD .skip) [1, 1, 1])]) (N := (fun _ _ => False)) (N' := (fun _ _ => False)) (X := (fun i => (fun _ _ => False))) (X' := (fun i => (fun _ _ => False))) (R := s70_R K) (s := s) (w := w) (p := s70_p1 K (s 2) w) (q := s70_p1_den K s w) tr_id (fun i => tr_id) (by kernel_rfl) (by kernel_rfl) @h
def s70_p2_d (K : Value → World → Prop) (t0 : Value) (w0 w : World) : Prop :=
  ixs 1 t0 (.int .i64 0) (fun t7 _ =>
  ld1 t7 (fun t8 _ =>
  cvi .u32 t8 (fun t9 _ =>
  ixs 1 t0 (.int .i64 1) (fun t11 _ =>
  ld1 t11 (fun t12 _ =>
  cvi .u32 t12 (fun t13 _ =>
  boI .shl t13 (.int .u64 8) (fun t14 _ =>
  boI .or t9 t14 (fun t15 _ =>
  ixs 1 t0 (.int .i64 2) (fun t17 _ =>
  ld1 t17 (fun t18 _ =>
  cvi .u32 t18 (fun t19 _ =>
  boI .shl t19 (.int .u64 16) (fun t20 _ =>
  boI .or t15 t20 (fun t21 _ =>
  ixs 1 t0 (.int .i64 3) (fun t23 _ =>
  ld1 t23 (fun t24 _ =>
  cvi .u32 t24 (fun t25 _ =>
  boI .shl t25 (.int .u64 24) (fun t26 _ =>
  boI .or t21 t26 (fun t27 _ =>
  s70_p1 K t27 w) w0) w0) w0) w0) w0) w0) w0) w0) w0) w0) w0) w0) w0) w0) w0) w0) w0) w0
def s70_p2 (K : Value → World → Prop) (t0 : Value) (w : World) : Prop := s70_p2_d K t0 (drw w) (drw w)
def s70_p2_den (K : Value → World → Prop) : (Nat → Value) → World → Prop := denL Try.prog [(cd (Try.f70.body.getD .skip) [1, 1, 0])] (s70_p1_den K) (fun i => (fun _ _ => False)) (s70_R K)
theorem s70_p2_ok (K : Value → World → Prop) (s : Nat → Value) (w : World) (h : s70_p2 K (s 0) w) : Tr (s70_p2_den K s w) :=
  tr_draw (P := Try.prog) (ops := (ro (cd (Try.f70.body.getD .skip) [1, 1, 0]))) (ms := [0, 1, 3, 7, 0, 16, 48, 112, 240, 511, 0, 1024, 3072, 7168, 15360, 32767, 0, 65536, 196608, 458752, 983040, 2097151, 4194303]) (cs := [0, 1, 2, 3, 4, 5, 6, 7, 8, 9, 10, 11, 12, 13, 14, 15, 16, 17, 18, 19, 20, 21, 22]) (N := (fun s w => s70_p1 K (s 2) w)) (N' := (s70_p1_den K)) (s := s) (w := w) (p := s70_p2 K (s 0) w) (q := s70_p2_den K s w) (by kernel_rfl) (by kernel_rfl) (fun s w h => s70_p1_ok K s w @h) (by kernel_rfl) (by kernel_rfl) @h
def s70_p3 (K : Value → World → Prop) (t0 : Value) (w : World) : Prop :=
  ixs 1 t0 (.int .i64 3) (fun t4 w =>
  ld1 t4 (fun t5 w =>
  s70_p2 K t0 w) w) w
def s70_p3_den (K : Value → World → Prop) : (Nat → Value) → World → Prop := denL Try.prog [(cd (Try.f70.body.getD .skip) [0]), (cd (Try.f70.body.getD .skip) [1, 0])] (s70_p2_den K) (fun i => (fun _ _ => False)) (s70_R K)
theorem s70_p3_ok (K : Value → World → Prop) (s : Nat → Value) (w : World) (h : s70_p3 K (s 0) w) : Tr (s70_p3_den K s w) :=
  tr_simple (P := Try.prog) (codes := [(cd (Try.f70.body.getD .skip) [0]), (cd (Try.f70.body.getD .skip) [1, 0])]) (N := (fun s w => s70_p2 K (s 0) w)) (N' := (s70_p2_den K)) (X := (fun i => (fun _ _ => False))) (X' := (fun i => (fun _ _ => False))) (R := s70_R K) (s := s) (w := w) (p := s70_p3 K (s 0) w) (q := s70_p3_den K s w) (fun s w h => s70_p2_ok K s w @h) (fun i => tr_id) (by kernel_rfl) (by kernel_rfl) @h
/-- the call, from the text -/
theorem c70 (t0 : Value) {K : Value → World → Prop} {w : World} (h : s70_p3 K t0 w) : cl Try.prog 70 #[t0] K w :=
  calls_of_tr (c := (Try.f70.body.getD .skip)) (fn := Try.f70) (q := s70_p3_den K (st0 #[t0]) w) Try.func70 (by kernel_rfl) (by kernel_rfl) (Nat.le_of_ble_eq_true (by kernel_rfl)) (by kernel_rfl) (by kernel_rfl) (s70_p3_ok K (st0 #[t0]) w @h)

/-! ### function 71 : e2e.octets.WordsBE64 -/
def s71_R (K : Value → World → Prop) (s : Nat → Value) (w : World) : Prop := retv Try.prog s Try.f71.results.toList (fun vs => K (pack vs) w) w
def s71_p1 (K : Value → World → Prop) (w : World) : Prop :=
  K (.bool true) w
def s71_p1_den (K : Value → World → Prop) : (Nat → Value) → World → Prop := denL Try.prog [(cd (Try.f71.body.getD .skip) [1, 1, 1, 0]), (cd (Try.f71.body.getD .skip) [1, 1, 1, 1])] (fun _ _ => False) (fun i => (fun _ _ => False)) (s71_R K)
theorem s71_p1_ok (K : Value → World → Prop) (s : Nat → Value) (w : World) (h : s71_p1 K w) : Tr (s71_p1_den K s w) :=
  tr_simple (P := Try.prog) (codes := [(cd (Try.f71.body.getD .skip) [1, 1, 1, 0]), (cd (Try.f71.body.getD .skip) [1, 1, 1, 1])]) (N := (fun _ _ => False)) (N' := (fun _ _ => False)) (X := (fun i => (fun _ _ => False))) (X' := (fun i => (fun _ _ => False))) (R := s71_R K) (s := s) (w := w) (p := s71_p1 K w) (q := s71_p1_den K s w) tr_id (fun i => tr_id) (by kernel_rfl) (by kernel_rfl) @h
def s71_p2 (K : Value → World → Prop) (B1 : List Value → World → Prop) (t0 t1 t13 t14 : Value) (w : World) : Prop :=
  boI .lss t14 t13 (fun t15 w =>
  ifb t15
  (boI .mul (.int .i64 8) t14 (fun t21 w =>
  sls 1 t1 (some t21) none (fun t22 w =>
  cl Try.prog 72 #[t22] (fun t23 w =>
  ixs 1 t0 t14 (fun t24 w =>
  st1 t24 t23 (fun w =>
  boI .add t14 (.int .i64 1) (fun t25 w =>
  B1 [t0, t1, t13, t25] w) w) w) w) w) w) w)
  (s71_p1 K w)) w
def s71_p2_den (K : Value → World → Prop) (M1 : (Nat → Value) → World → Prop) : (Nat → Value) → World → Prop := denL Try.prog [(cd (Try.f71.body.getD .skip) [1, 1, 0, 1, 0, 0, 0]), (cd (Try.f71.body.getD .skip) [1, 1, 0, 1, 0, 0, 1, 0]), (cd (Try.f71.body.getD .skip) [1, 1, 0, 1, 0, 0, 1, 1, 0]), (cd (Try.f71.body.getD .skip) [1, 1, 0, 1, 0, 0, 1, 1, 1])] M1 (fun i => (bif Nat.beq i 0 then (s71_p1_den K) else (fun _ _ => False))) (s71_R K)
theorem s71_p2_ok (K : Value → World → Prop) (B1 : List Value → World → Prop) (s : Nat → Value) (w : World) (h : s71_p2 K B1 (s 0) (s 1) (s 13) (s 14) w) : Tr (s71_p2_den K (fun s w => B1 [s 0, s 1, s 13, s 14] w) s w) :=
  tr_simple (P := Try.prog) (codes := [(cd (Try.f71.body.getD .skip) [1, 1, 0, 1, 0, 0, 0]), (cd (Try.f71.body.getD .skip) [1, 1, 0, 1, 0, 0, 1, 0]), (cd (Try.f71.body.getD .skip) [1, 1, 0, 1, 0, 0, 1, 1, 0]), (cd (Try.f71.body.getD .skip) [1, 1, 0, 1, 0, 0, 1, 1, 1])]) (N := (fun s w => B1 [s 0, s 1, s 13, s 14] w)) (N' := (fun s w => B1 [s 0, s 1, s 13, s 14] w)) (X := (fun i => (bif Nat.beq i 0 then (fun s w => s71_p1 K w) else (fun _ _ => False)))) (X' := (fun i => (bif Nat.beq i 0 then (s71_p1_den K) else (fun _ _ => False)))) (R := s71_R K) (s := s) (w := w) (p := s71_p2 K B1 (s 0) (s 1) (s 13) (s 14) w) (q := s71_p2_den K (fun s w => B1 [s 0, s 1, s 13, s 14] w) s w) tr_id (fun i => (tr_bif (fun s w h => s71_p1_ok K s w @h) tr_id)) (by kernel_rfl) (by kernel_rfl) @h
def s71_p3_F (K : Value → World → Prop) (B1 : List Value → World → Prop) (l : List Value) (w : World) : Prop :=
  match l with
  | [t0, t1, t13, t14] => s71_p2 K B1 t0 t1 t13 t14 w
  | _ => False
theorem s71_p3_Fe {K : Value → World → Prop} {B1 : List Value → World → Prop} {t0 t1 t13 t14 : Value} {w : World} : s71_p3_F K B1 [t0, t1, t13, t14] w = s71_p2 K B1 t0 t1 t13 t14 w := by kernel_rfl
def s71_p3 (K : Value → World → Prop) (t0 t1 t13 t14 : Value) (w : World) : Prop :=
  LoopL (s71_p3_F K) [t0, t1, t13, t14] w
def s71_p3_den (K : Value → World → Prop) : (Nat → Value) → World → Prop := fun s w => LoopP (fun M1 s w => s71_p2_den K M1 s w) s w
theorem s71_p3_ok (K : Value → World → Prop) (s : Nat → Value) (w : World) (h : s71_p3 K (s 0) (s 1) (s 13) (s 14) w) : Tr (s71_p3_den K s w) :=
  tr_loop (G := fun N' s w => s71_p2_den K N' s w) (F := s71_p3_F K) (sel := fun s => [s 0, s 1, s 13, s 14]) (s := s) (w := w) (p := s71_p3 K (s 0) (s 1) (s 13) (s 14) w) (q := s71_p3_den K s w) (fun B s w h => s71_p2_ok K B s w @h) (by kernel_rfl) (by kernel_rfl) @h
def s71_p4 (K : Value → World → Prop) (t0 t1 : Value) (w : World) : Prop :=
  lnS t1 (fun t7 w =>
  boI .quo t7 (.int .i64 8) (fun t8 w =>
  lnS t0 (fun t10 w =>
  boI .lss t8 t10 (fun t11 w =>
  ifb t11
  (K (.bool false) w)
  (lnS t0 (fun t13 w =>
  s71_p3 K t0 t1 t13 (.int .i64 0) w) w)) w) w) w) w
def s71_p4_den (K : Value → World → Prop) : (Nat → Value) → World → Prop := denL Try.prog [(cd (Try.f71.body.getD .skip) [0]), (cd (Try.f71.body.getD .skip) [1, 0, 0]), (cd (Try.f71.body.getD .skip) [1, 0, 1]), (cd (Try.f71.body.getD .skip) [1, 1, 0, 0])] (s71_p3_den K) (fun i => (fun _ _ => False)) (s71_R K)
theorem s71_p4_ok (K : Value → World → Prop) (s : Nat → Value) (w : World) (h : s71_p4 K (s 0) (s 1) w) : Tr (s71_p4_den K s w) :=
  tr_simple (P := Try.prog) (codes := [(cd (Try.f71.body.getD .skip) [0]), (cd (Try.f71.body.getD .skip) [1, 0, 0]), (cd (Try.f71.body.getD .skip) [1, 0, 1]), (cd (Try.f71.body.getD .skip) [1, 1, 0, 0])]) (N := (fun s w => s71_p3 K (s 0) (s 1) (s 13) (s 14) w)) (N' := (s71_p3_den K)) (X := (fun i => (fun _ _ => False))) (X' := (fun i => (fun _ _ => False))) (R := s71_R K) (s := s) (w := w) (p := s71_p4 K (s 0) (s 1) w) (q := s71_p4_den K s w) (fun s w h => s71_p3_ok K s w @h) (fun i => tr_id) (by kernel_rfl) (by kernel_rfl) @h
/-- the call, from the text -/
theorem c71 (t0 t1 : Value) {K : Value → World → Prop} {w : World} (h : s71_p4 K t0 t1 w) : cl Try.prog 71 #[t0, t1] K w :=
  calls_of_tr (c := (Try.f71.body.getD .skip)) (fn := Try.f71) (q := s71_p4_den K (st0 #[t0, t1]) w) Try.func71 (by kernel_rfl) (by kernel_rfl) (Nat.le_of_ble_eq_true (by kernel_rfl)) (by kernel_rfl) (by kernel_rfl) (s71_p4_ok K (st0 #[t0, t1]) w @h)

/-! ### function 72 : e2e.octets.BE64 -/
def s72_R (K : Value → World → Prop) (s : Nat → Value) (w : World) : Prop := retv Try.prog s Try.f72.results.toList (fun vs => K (pack vs) w) w
def s72_p1 (K : Value → World → Prop) (t2 : Value) (w : World) : Prop :=
  K t2 w
def s72_p1_den (K : Value → World → Prop) : (Nat → Value) → World → Prop := denL Try.prog [(cd (Try.f72.body.getD .skip) [1, 1, 1])] (fun _ _ => False) (fun i => (fun _ _ => False)) (s72_R K)
theorem s72_p1_ok (K : Value → World → Prop) (s : Nat → Value) (w : World) (h : s72_p1 K (s 2) w) : Tr (s72_p1_den K s w) :=
  tr_simple (P := Try.prog) (codes := [(cd (Try.f72.body.getD .skip) [1, 1, 1])]) (N := (fun _ _ => False)) (N' := (fun _ _ => False)) (X := (fun i => (fun _ _ => False))) (X' := (fun i => (fun _ _ => False))) (R := s72_R K) (s := s) (w := w) (p := s72_p1 K (s 2) w) (q := s72_p1_den K s w) tr_id (fun i => tr_id) (by kernel_rfl) (by kernel_rfl) @h
def s72_p2_d (K : Value → World → Prop) (t0 : Value) (w0 w : World) : Prop :=
  ixs 1 t0 (.int .i64 0) (fun t7 _ =>
  ld1 t7 (fun t8 _ =>
  cvi .u64 t8 (fun t9 _ =>
  boI .shl t9 (.int .u64 56) (fun t10 _ =>
  ixs 1 t0 (.int .i64 1) (fun t12 _ =>
  ld1 t12 (fun t13 _ =>
  cvi .u64 t13 (fun t14 _ =>
  boI .shl t14 (.int .u64 48) (fun t15 _ =>
  boI .or t10 t15 (fun t16 _ =>
  ixs 1 t0 (.int .i64 2) (fun t18 _ =>
  ld1 t18 (fun t19 _ =>
  cvi .u64 t19 (fun t20 _ =>
  boI .shl t20 (.int .u64 40) (fun t21 _ =>
  boI .or t16 t21 (fun t22 _ =>
  ixs 1 t0 (.int .i64 3) (fun t24 _ =>
  ld1 t24 (fun t25 _ =>
  cvi .u64 t25 (fun t26 _ =>
  boI .shl t26 (.int .u64 32) (fun t27 _ =>
  boI .or t22 t27 (fun t28 _ =>
  ixs 1 t0 (.int .i64 4) (fun t30 _ =>
  ld1 t30 (fun t31 _ =>
  cvi .u64 t31 (fun t32 _ =>
  boI .shl t32 (.int .u64 24) (fun t33 _ =>
  boI .or t28 t33 (fun t34 _ =>
  ixs 1 t0 (.int .i64 5) (fun t36 _ =>
  ld1 t36 (fun t37 _ =>
  cvi .u64 t37 (fun t38 _ =>
  boI .shl t38 (.int .u64 16) (fun t39 _ =>
  boI .or t34 t39 (fun t40 _ =>
  ixs 1 t0 (.int .i64 6) (fun t42 _ =>
  ld1 t42 (fun t43 _ =>
  cvi .u64 t43 (fun t44 _ =>
  boI .shl t44 (.int .u64 8) (fun t45 _ =>
  boI .or t40 t45 (fun t46 _ =>
  ixs 1 t0 (.int .i64 7) (fun t48 _ =>
  ld1 t48 (fun t49 _ =>
  cvi .u64 t49 (fun t50 _ =>
  boI .or t46 t50 (fun t51 _ =>
  s72_p1 K t51 w) w0) w0) w0) w0) w0) w0) w0) w0) w0) w0) w0) w0) w0) w0) w0) w0) w0) w0) w0) w0) w0) w0) w0) w0) w0) w0) w0) w0) w0) w0) w0) w0) w0) w0) w0) w0) w0) w0
def s72_p2 (K : Value → World → Prop) (t0 : Value) (w : World) : Prop := s72_p2_d K t0 (drw w) (drw w)
def s72_p2_den (K : Value → World → Prop) : (Nat → Value) → World → Prop := denL Try.prog [(cd (Try.f72.body.getD .skip) [1, 1, 0])] (s72_p1_den K) (fun i => (fun _ _ => False)) (s72_R K)
theorem s72_p2_ok (K : Value → World → Prop) (s : Nat → Value) (w : World) (h : s72_p2 K (s 0) w) : Tr (s72_p2_den K s w) :=
  tr_draw (P := Try.prog) (ops := (ro (cd (Try.f72.body.getD .skip) [1, 1, 0]))) (ms := [0, 1, 3, 7, 15, 0, 32, 96, 224, 480, 1023, 0, 2048, 6144, 14336, 30720, 65535, 0, 131072, 393216, 917504, 1966080, 4194303, 0, 8388608, 25165824, 58720256, 125829120, 268435455, 0, 536870912, 1610612736, 3758096384, 8053063680, 17179869183, 0, 34359738368, 103079215104, 240518168576, 515396075520, 1099511627775, 0, 2199023255552, 6597069766656, 15393162788864, 35184372088831, 70368744177663]) (cs := [0, 1, 2, 3, 4, 5, 6, 7, 8, 9, 10, 11, 12, 13, 14, 15, 16, 17, 18, 19, 20, 21, 22, 23, 24, 25, 26, 27, 28, 29, 30, 31, 32, 33, 34, 35, 36, 37, 38, 39, 40, 41, 42, 43, 44, 45, 46]) (N := (fun s w => s72_p1 K (s 2) w)) (N' := (s72_p1_den K)) (s := s) (w := w) (p := s72_p2 K (s 0) w) (q := s72_p2_den K s w) (by kernel_rfl) (by kernel_rfl) (fun s w h => s72_p1_ok K s w @h) (by kernel_rfl) (by kernel_rfl) @h
def s72_p3 (K : Value → World → Prop) (t0 : Value) (w : World) : Prop :=
  ixs 1 t0 (.int .i64 7) (fun t4 w =>
  ld1 t4 (fun t5 w =>
  s72_p2 K t0 w) w) w
def s72_p3_den (K : Value → World → Prop) : (Nat → Value) → World → Prop := denL Try.prog [(cd (Try.f72.body.getD .skip) [0]), (cd (Try.f72.body.getD .skip) [1, 0])] (s72_p2_den K) (fun i => (fun _ _ => False)) (s72_R K)
theorem s72_p3_ok (K : Value → World → Prop) (s : Nat → Value) (w : World) (h : s72_p3 K (s 0) w) : Tr (s72_p3_den K s w) :=
  tr_simple (P := Try.prog) (codes := [(cd (Try.f72.body.getD .skip) [0]), (cd (Try.f72.body.getD .skip) [1, 0])]) (N := (fun s w => s72_p2 K (s 0) w)) (N' := (s72_p2_den K)) (X := (fun i => (fun _ _ => False))) (X' := (fun i => (fun _ _ => False))) (R := s72_R K) (s := s) (w := w) (p := s72_p3 K (s 0) w) (q := s72_p3_den K s w) (fun s w h => s72_p2_ok K s w @h) (fun i => tr_id) (by kernel_rfl) (by kernel_rfl) @h
/-- the call, from the text -/
theorem c72 (t0 : Value) {K : Value → World → Prop} {w : World} (h : s72_p3 K t0 w) : cl Try.prog 72 #[t0] K w :=
  calls_of_tr (c := (Try.f72.body.getD .skip)) (fn := Try.f72) (q := s72_p3_den K (st0 #[t0]) w) Try.func72 (by kernel_rfl) (by kernel_rfl) (Nat.le_of_ble_eq_true (by kernel_rfl)) (by kernel_rfl) (by kernel_rfl) (s72_p3_ok K (st0 #[t0]) w @h)

/-! ### function 73 : e2e.octets.LE16 -/
def s73_R (K : Value → World → Prop) (s : Nat → Value) (w : World) : Prop := retv Try.prog s Try.f73.results.toList (fun vs => K (pack vs) w) w
def s73_p1 (K : Value → World → Prop) (t2 : Value) (w : World) : Prop :=
  K t2 w
def s73_p1_den (K : Value → World → Prop) : (Nat → Value) → World → Prop := denL Try.prog [(cd (Try.f73.body.getD .skip) [1, 1, 1])] (fun _ _ => False) (fun i => (fun _ _ => False)) (s73_R K)
theorem s73_p1_ok (K : Value → World → Prop) (s : Nat → Value) (w : World) (h : s73_p1 K (s 2) w) : Tr (s73_p1_den K s w) :=
  tr_simple (P := Try.prog) (codes := [(cd (Try.f73.body.getD .skip) [1, 1, 1])]) (N := (fun _ _ => False)) (N' := (fun _ _ => False)) (X := (fun i => (fun _ _ => False))) (X' := (fun i => (fun _ _ => False))) (R := s73_R K) (s := s) (w := w) (p := s73_p1 K (s 2) w) (q := s73_p1_den K s w) tr_id (fun i => tr_id) (by kernel_rfl) (by kernel_rfl) @h
def s73_p2_d (K : Value → World → Prop) (t0 : Value) (w0 w : World) : Prop :=
  ixs 1 t0 (.int .i64 0) (fun t7 _ =>
  ld1 t7 (fun t8 _ =>
  cvi .u16 t8 (fun t9 _ =>
  ixs 1 t0 (.int .i64 1) (fun t11 _ =>
  ld1 t11 (fun t12 _ =>
  cvi .u16 t12 (fun t13 _ =>
  boI .shl t13 (.int .u64 8) (fun t14 _ =>
  boI .or t9 t14 (fun t15 _ =>
  s73_p1 K t15 w) w0) w0) w0) w0) w0) w0) w0) w0
def s73_p2 (K : Value → World → Prop) (t0 : Value) (w : World) : Prop := s73_p2_d K t0 (drw w) (drw w)
def s73_p2_den (K : Value → World → Prop) : (Nat → Value) → World → Prop := denL Try.prog [(cd (Try.f73.body.getD .skip) [1, 1, 0])] (s73_p1_den K) (fun i => (fun _ _ => False)) (s73_R K)
theorem s73_p2_ok (K : Value → World → Prop) (s : Nat → Value) (w : World) (h : s73_p2 K (s 0) w) : Tr (s73_p2_den K s w) :=
  tr_draw (P := Try.prog) (ops := (ro (cd (Try.f73.body.getD .skip) [1, 1, 0]))) (ms := [0, 1, 3, 7, 0, 16, 48, 112, 240, 511, 1023]) (cs := [0, 1, 2, 3, 4, 5, 6, 7, 8, 9, 10]) (N := (fun s w => s73_p1 K (s 2) w)) (N' := (s73_p1_den K)) (s := s) (w := w) (p := s73_p2 K (s 0) w) (q := s73_p2_den K s w) (by kernel_rfl) (by kernel_rfl) (fun s w h => s73_p1_ok K s w @h) (by kernel_rfl) (by kernel_rfl) @h
def s73_p3 (K : Value → World → Prop) (t0 : Value) (w : World) : Prop :=
  ixs 1 t0 (.int .i64 1) (fun t4 w =>
  ld1 t4 (fun t5 w =>
  s73_p2 K t0 w) w) w
def s73_p3_den (K : Value → World → Prop) : (Nat → Value) → World → Prop := denL Try.prog [(cd (Try.f73.body.getD .skip) [0]), (cd (Try.f73.body.getD .skip) [1, 0])] (s73_p2_den K) (fun i => (fun _ _ => False)) (s73_R K)
theorem s73_p3_ok (K : Value → World → Prop) (s : Nat → Value) (w : World) (h : s73_p3 K (s 0) w) : Tr (s73_p3_den K s w) :=
  tr_simple (P := Try.prog) (codes := [(cd (Try.f73.body.getD .skip) [0]), (cd (Try.f73.body.getD .skip) [1, 0])]) (N := (fun s w => s73_p2 K (s 0) w)) (N' := (s73_p2_den K)) (X := (fun i => (fun _ _ => False))) (X' := (fun i => (fun _ _ => False))) (R := s73_R K) (s := s) (w := w) (p := s73_p3 K (s 0) w) (q := s73_p3_den K s w) (fun s w h => s73_p2_ok K s w @h) (fun i => tr_id) (by kernel_rfl) (by kernel_rfl) @h
/-- the call, from the text -/
theorem c73 (t0 : Value) {K : Value → World → Prop} {w : World} (h : s73_p3 K t0 w) : cl Try.prog 73 #[t0] K w :=
  calls_of_tr (c := (Try.f73.body.getD .skip)) (fn := Try.f73) (q := s73_p3_den K (st0 #[t0]) w) Try.func73 (by kernel_rfl) (by kernel_rfl) (Nat.le_of_ble_eq_true (by kernel_rfl)) (by kernel_rfl) (by kernel_rfl) (s73_p3_ok K (st0 #[t0]) w @h)

/-! ### function 74 : e2e.octets.BE16 -/
def s74_R (K : Value → World → Prop) (s : Nat → Value) (w : World) : Prop := retv Try.prog s Try.f74.results.toList (fun vs => K (pack vs) w) w
def s74_p1 (K : Value → World → Prop) (t2 : Value) (w : World) : Prop :=
  K t2 w
def s74_p1_den (K : Value → World → Prop) : (Nat → Value) → World → Prop := denL Try.prog [(cd (Try.f74.body.getD .skip) [1, 1, 1])] (fun _ _ => False) (fun i => (fun _ _ => False)) (s74_R K)
theorem s74_p1_ok (K : Value → World → Prop) (s : Nat → Value) (w : World) (h : s74_p1 K (s 2) w) : Tr (s74_p1_den K s w) :=
  tr_simple (P := Try.prog) (codes := [(cd (Try.f74.body.getD .skip) [1, 1, 1])]) (N := (fun _ _ => False)) (N' := (fun _ _ => False)) (X := (fun i => (fun _ _ => False))) (X' := (fun i => (fun _ _ => False))) (R := s74_R K) (s := s) (w := w) (p := s74_p1 K (s 2) w) (q := s74_p1_den K s w) tr_id (fun i => tr_id) (by kernel_rfl) (by kernel_rfl) @h
def s74_p2_d (K : Value → World → Prop) (t0 : Value) (w0 w : World) : Prop :=
  ixs 1 t0 (.int .i64 0) (fun t7 _ =>
  ld1 t7 (fun t8 _ =>
  cvi .u16 t8 (fun t9 _ =>
  boI .shl t9 (.int .u64 8) (fun t10 _ =>
  ixs 1 t0 (.int .i64 1) (fun t12 _ =>
  ld1 t12 (fun t13 _ =>
  cvi .u16 t13 (fun t14 _ =>
  boI .or t10 t14 (fun t15 _ =>
  s74_p1 K t15 w) w0) w0) w0) w0) w0) w0) w0) w0
def s74_p2 (K : Value → World → Prop) (t0 : Value) (w : World) : Prop := s74_p2_d K t0 (drw w) (drw w)
def s74_p2_den (K : Value → World → Prop) : (Nat → Value) → World → Prop := denL Try.prog [(cd (Try.f74.body.getD .skip) [1, 1, 0])] (s74_p1_den K) (fun i => (fun _ _ => False)) (s74_R K)
theorem s74_p2_ok (K : Value → World → Prop) (s : Nat → Value) (w : World) (h : s74_p2 K (s 0) w) : Tr (s74_p2_den K s w) :=
  tr_draw (P := Try.prog) (ops := (ro (cd (Try.f74.body.getD .skip) [1, 1, 0]))) (ms := [0, 1, 3, 7, 15, 0, 32, 96, 224, 511, 1023]) (cs := [0, 1, 2, 3, 4, 5, 6, 7, 8, 9, 10]) (N := (fun s w => s74_p1 K (s 2) w)) (N' := (s74_p1_den K)) (s := s) (w := w) (p := s74_p2 K (s 0) w) (q := s74_p2_den K s w) (by kernel_rfl) (by kernel_rfl) (fun s w h => s74_p1_ok K s w @h) (by kernel_rfl) (by kernel_rfl) @h
def s74_p3 (K : Value → World → Prop) (t0 : Value) (w : World) : Prop :=
  ixs 1 t0 (.int .i64 1) (fun t4 w =>
  ld1 t4 (fun t5 w =>
  s74_p2 K t0 w) w) w
def s74_p3_den (K : Value → World → Prop) : (Nat → Value) → World → Prop := denL Try.prog [(cd (Try.f74.body.getD .skip) [0]), (cd (Try.f74.body.getD .skip) [1, 0])] (s74_p2_den K) (fun i => (fun _ _ => False)) (s74_R K)
theorem s74_p3_ok (K : Value → World → Prop) (s : Nat → Value) (w : World) (h : s74_p3 K (s 0) w) : Tr (s74_p3_den K s w) :=
  tr_simple (P := Try.prog) (codes := [(cd (Try.f74.body.getD .skip) [0]), (cd (Try.f74.body.getD .skip) [1, 0])]) (N := (fun s w => s74_p2 K (s 0) w)) (N' := (s74_p2_den K)) (X := (fun i => (fun _ _ => False))) (X' := (fun i => (fun _ _ => False))) (R := s74_R K) (s := s) (w := w) (p := s74_p3 K (s 0) w) (q := s74_p3_den K s w) (fun s w h => s74_p2_ok K s w @h) (fun i => tr_id) (by kernel_rfl) (by kernel_rfl) @h
/-- the call, from the text -/
theorem c74 (t0 : Value) {K : Value → World → Prop} {w : World} (h : s74_p3 K t0 w) : cl Try.prog 74 #[t0] K w :=
  calls_of_tr (c := (Try.f74.body.getD .skip)) (fn := Try.f74) (q := s74_p3_den K (st0 #[t0]) w) Try.func74 (by kernel_rfl) (by kernel_rfl) (Nat.le_of_ble_eq_true (by kernel_rfl)) (by kernel_rfl) (by kernel_rfl) (s74_p3_ok K (st0 #[t0]) w @h)

/-! ### function 75 : e2e.octets.LE64 -/
def s75_R (K : Value → World → Prop) (s : Nat → Value) (w : World) : Prop := retv Try.prog s Try.f75.results.toList (fun vs => K (pack vs) w) w
def s75_p1 (K : Value → World → Prop) (t2 : Value) (w : World) : Prop :=
  K t2 w
def s75_p1_den (K : Value → World → Prop) : (Nat → Value) → World → Prop := denL Try.prog [(cd (Try.f75.body.getD .skip) [1, 1, 1])] (fun _ _ => False) (fun i => (fun _ _ => False)) (s75_R K)
theorem s75_p1_ok (K : Value → World → Prop) (s : Nat → Value) (w : World) (h : s75_p1 K (s 2) w) : Tr (s75_p1_den K s w) :=
  tr_simple (P := Try.prog) (codes := [(cd (Try.f75.body.getD .skip) [1, 1, 1])]) (N := (fun _ _ => False)) (N' := (fun _ _ => False)) (X := (fun i => (fun _ _ => False))) (X' := (fun i => (fun _ _ => False))) (R := s75_R K) (s := s) (w := w) (p := s75_p1 K (s 2) w) (q := s75_p1_den K s w) tr_id (fun i => tr_id) (by kernel_rfl) (by kernel_rfl) @h
def s75_p2_d (K : Value → World → Prop) (t0 : Value) (w0 w : World) : Prop :=
  ixs 1 t0 (.int .i64 0) (fun t7 _ =>
  ld1 t7 (fun t8 _ =>
  cvi .u64 t8 (fun t9 _ =>
  ixs 1 t0 (.int .i64 1) (fun t11 _ =>
  ld1 t11 (fun t12 _ =>
  cvi .u64 t12 (fun t13 _ =>
  boI .shl t13 (.int .u64 8) (fun t14 _ =>
  boI .or t9 t14 (fun t15 _ =>
  ixs 1 t0 (.int .i64 2) (fun t17 _ =>
  ld1 t17 (fun t18 _ =>
  cvi .u64 t18 (fun t19 _ =>
  boI .shl t19 (.int .u64 16) (fun t20 _ =>
  boI .or t15 t20 (fun t21 _ =>
  ixs 1 t0 (.int .i64 3) (fun t23 _ =>
  ld1 t23 (fun t24 _ =>
  cvi .u64 t24 (fun t25 _ =>
  boI .shl t25 (.int .u64 24) (fun t26 _ =>
  boI .or t21 t26 (fun t27 _ =>
  ixs 1 t0 (.int .i64 4) (fun t29 _ =>
  ld1 t29 (fun t30 _ =>
  cvi .u64 t30 (fun t31 _ =>
  boI .shl t31 (.int .u64 32) (fun t32 _ =>
  boI .or t27 t32 (fun t33 _ =>
  ixs 1 t0 (.int .i64 5) (fun t35 _ =>
  ld1 t35 (fun t36 _ =>
  cvi .u64 t36 (fun t37 _ =>
  boI .shl t37 (.int .u64 40) (fun t38 _ =>
  boI .or t33 t38 (fun t39 _ =>
  ixs 1 t0 (.int .i64 6) (fun t41 _ =>
  ld1 t41 (fun t42 _ =>
  cvi .u64 t42 (fun t43 _ =>
  boI .shl t43 (.int .u64 48) (fun t44 _ =>
  boI .or t39 t44 (fun t45 _ =>
  ixs 1 t0 (.int .i64 7) (fun t47 _ =>
  ld1 t47 (fun t48 _ =>
  cvi .u64 t48 (fun t49 _ =>
  boI .shl t49 (.int .u64 56) (fun t50 _ =>
  boI .or t45 t50 (fun t51 _ =>
  s75_p1 K t51 w) w0) w0) w0) w0) w0) w0) w0) w0) w0) w0) w0) w0) w0) w0) w0) w0) w0) w0) w0) w0) w0) w0) w0) w0) w0) w0) w0) w0) w0) w0) w0) w0) w0) w0) w0) w0) w0) w0
def s75_p2 (K : Value → World → Prop) (t0 : Value) (w : World) : Prop := s75_p2_d K t0 (drw w) (drw w)
def s75_p2_den (K : Value → World → Prop) : (Nat → Value) → World → Prop := denL Try.prog [(cd (Try.f75.body.getD .skip) [1, 1, 0])] (s75_p1_den K) (fun i => (fun _ _ => False)) (s75_R K)
theorem s75_p2_ok (K : Value → World → Prop) (s : Nat → Value) (w : World) (h : s75_p2 K (s 0) w) : Tr (s75_p2_den K s w) :=
  tr_draw (P := Try.prog) (ops := (ro (cd (Try.f75.body.getD .skip) [1, 1, 0]))) (ms := [0, 1, 3, 7, 0, 16, 48, 112, 240, 511, 0, 1024, 3072, 7168, 15360, 32767, 0, 65536, 196608, 458752, 983040, 2097151, 0, 4194304, 12582912, 29360128, 62914560, 134217727, 0, 268435456, 805306368, 1879048192, 4026531840, 8589934591, 0, 17179869184, 51539607552, 120259084288, 257698037760, 549755813887, 0, 1099511627776, 3298534883328, 7696581394432, 16492674416640, 35184372088831, 70368744177663]) (cs := [0, 1, 2, 3, 4, 5, 6, 7, 8, 9, 10, 11, 12, 13, 14, 15, 16, 17, 18, 19, 20, 21, 22, 23, 24, 25, 26, 27, 28, 29, 30, 31, 32, 33, 34, 35, 36, 37, 38, 39, 40, 41, 42, 43, 44, 45, 46]) (N := (fun s w => s75_p1 K (s 2) w)) (N' := (s75_p1_den K)) (s := s) (w := w) (p := s75_p2 K (s 0) w) (q := s75_p2_den K s w) (by kernel_rfl) (by kernel_rfl) (fun s w h => s75_p1_ok K s w @h) (by kernel_rfl) (by kernel_rfl) @h
def s75_p3 (K : Value → World → Prop) (t0 : Value) (w : World) : Prop :=
  ixs 1 t0 (.int .i64 7) (fun t4 w =>
  ld1 t4 (fun t5 w =>
  s75_p2 K t0 w) w) w
def s75_p3_den (K : Value → World → Prop) : (Nat → Value) → World → Prop := denL Try.prog [(cd (Try.f75.body.getD .skip) [0]), (cd (Try.f75.body.getD .skip) [1, 0])] (s75_p2_den K) (fun i => (fun _ _ => False)) (s75_R K)
theorem s75_p3_ok (K : Value → World → Prop) (s : Nat → Value) (w : World) (h : s75_p3 K (s 0) w) : Tr (s75_p3_den K s w) :=
  tr_simple (P := Try.prog) (codes := [(cd (Try.f75.body.getD .skip) [0]), (cd (Try.f75.body.getD .skip) [1, 0])]) (N := (fun s w => s75_p2 K (s 0) w)) (N' := (s75_p2_den K)) (X := (fun i => (fun _ _ => False))) (X' := (fun i => (fun _ _ => False))) (R := s75_R K) (s := s) (w := w) (p := s75_p3 K (s 0) w) (q := s75_p3_den K s w) (fun s w h => s75_p2_ok K s w @h) (fun i => tr_id) (by kernel_rfl) (by kernel_rfl) @h
/-- the call, from the text -/
theorem c75 (t0 : Value) {K : Value → World → Prop} {w : World} (h : s75_p3 K t0 w) : cl Try.prog 75 #[t0] K w :=
  calls_of_tr (c := (Try.f75.body.getD .skip)) (fn := Try.f75) (q := s75_p3_den K (st0 #[t0]) w) Try.func75 (by kernel_rfl) (by kernel_rfl) (Nat.le_of_ble_eq_true (by kernel_rfl)) (by kernel_rfl) (by kernel_rfl) (s75_p3_ok K (st0 #[t0]) w @h)

/-! ### function 76 : e2e.octets.PutLE16 -/
def s76_R (K : Value → World → Prop) (s : Nat → Value) (w : World) : Prop := retv Try.prog s Try.f76.results.toList (fun vs => K (pack vs) w) w
def s76_p1 (K : Value → World → Prop) (t0 t1 : Value) (w : World) : Prop :=
  ixs 1 t0 (.int .i64 1) (fun t5 w =>
  ld1 t5 (fun t6 w =>
  cvi .u8 t1 (fun t9 w =>
  ixs 1 t0 (.int .i64 0) (fun t10 w =>
  st1 t10 t9 (fun w =>
  boI .shr t1 (.int .u64 8) (fun t13 w =>
  cvi .u8 t13 (fun t14 w =>
  ixs 1 t0 (.int .i64 1) (fun t15 w =>
  st1 t15 t14 (fun w =>
  K (.tuple #[]) w) w) w) w) w) w) w) w) w) w
def s76_p1_den (K : Value → World → Prop) : (Nat → Value) → World → Prop := denL Try.prog [(cd (Try.f76.body.getD .skip) [0]), (cd (Try.f76.body.getD .skip) [1, 0]), (cd (Try.f76.body.getD .skip) [1, 1])] (s76_R K) (fun i => (fun _ _ => False)) (s76_R K)
theorem s76_p1_ok (K : Value → World → Prop) (s : Nat → Value) (w : World) (h : s76_p1 K (s 0) (s 1) w) : Tr (s76_p1_den K s w) :=
  tr_simple (P := Try.prog) (codes := [(cd (Try.f76.body.getD .skip) [0]), (cd (Try.f76.body.getD .skip) [1, 0]), (cd (Try.f76.body.getD .skip) [1, 1])]) (N := (s76_R K)) (N' := (s76_R K)) (X := (fun i => (fun _ _ => False))) (X' := (fun i => (fun _ _ => False))) (R := s76_R K) (s := s) (w := w) (p := s76_p1 K (s 0) (s 1) w) (q := s76_p1_den K s w) tr_id (fun i => tr_id) (by kernel_rfl) (by kernel_rfl) @h
/-- the call, from the text -/
theorem c76 (t0 t1 : Value) {K : Value → World → Prop} {w : World} (h : s76_p1 K t0 t1 w) : cl Try.prog 76 #[t0, t1] K w :=
  calls_of_tr (c := (Try.f76.body.getD .skip)) (fn := Try.f76) (q := s76_p1_den K (st0 #[t0, t1]) w) Try.func76 (by kernel_rfl) (by kernel_rfl) (Nat.le_of_ble_eq_true (by kernel_rfl)) (by kernel_rfl) (by kernel_rfl) (s76_p1_ok K (st0 #[t0, t1]) w @h)

/-! ### function 77 : e2e.octets.PutBE16 -/
def s77_R (K : Value → World → Prop) (s : Nat → Value) (w : World) : Prop := retv Try.prog s Try.f77.results.toList (fun vs => K (pack vs) w) w
def s77_p1 (K : Value → World → Prop) (t0 t1 : Value) (w : World) : Prop :=
  ixs 1 t0 (.int .i64 1) (fun t5 w =>
  ld1 t5 (fun t6 w =>
  boI .shr t1 (.int .u64 8) (fun t9 w =>
  cvi .u8 t9 (fun t10 w =>
  ixs 1 t0 (.int .i64 0) (fun t11 w =>
  st1 t11 t10 (fun w =>
  cvi .u8 t1 (fun t14 w =>
  ixs 1 t0 (.int .i64 1) (fun t15 w =>
  st1 t15 t14 (fun w =>
  K (.tuple #[]) w) w) w) w) w) w) w) w) w) w
def s77_p1_den (K : Value → World → Prop) : (Nat → Value) → World → Prop := denL Try.prog [(cd (Try.f77.body.getD .skip) [0]), (cd (Try.f77.body.getD .skip) [1, 0]), (cd (Try.f77.body.getD .skip) [1, 1])] (s77_R K) (fun i => (fun _ _ => False)) (s77_R K)
theorem s77_p1_ok (K : Value → World → Prop) (s : Nat → Value) (w : World) (h : s77_p1 K (s 0) (s 1) w) : Tr (s77_p1_den K s w) :=
  tr_simple (P := Try.prog) (codes := [(cd (Try.f77.body.getD .skip) [0]), (cd (Try.f77.body.getD .skip) [1, 0]), (cd (Try.f77.body.getD .skip) [1, 1])]) (N := (s77_R K)) (N' := (s77_R K)) (X := (fun i => (fun _ _ => False))) (X' := (fun i => (fun _ _ => False))) (R := s77_R K) (s := s) (w := w) (p := s77_p1 K (s 0) (s 1) w) (q := s77_p1_den K s w) tr_id (fun i => tr_id) (by kernel_rfl) (by kernel_rfl) @h
/-- the call, from the text -/
theorem c77 (t0 t1 : Value) {K : Value → World → Prop} {w : World} (h : s77_p1 K t0 t1 w) : cl Try.prog 77 #[t0, t1] K w :=
  calls_of_tr (c := (Try.f77.body.getD .skip)) (fn := Try.f77) (q := s77_p1_den K (st0 #[t0, t1]) w) Try.func77 (by kernel_rfl) (by kernel_rfl) (Nat.le_of_ble_eq_true (by kernel_rfl)) (by kernel_rfl) (by kernel_rfl) (s77_p1_ok K (st0 #[t0, t1]) w @h)

/-! ### function 78 : e2e.octets.PutLE32 -/
def s78_R (K : Value → World → Prop) (s : Nat → Value) (w : World) : Prop := retv Try.prog s Try.f78.results.toList (fun vs => K (pack vs) w) w
def s78_p1 (K : Value → World → Prop) (t0 t1 : Value) (w : World) : Prop :=
  ixs 1 t0 (.int .i64 3) (fun t5 w =>
  ld1 t5 (fun t6 w =>
  cvi .u8 t1 (fun t9 w =>
  ixs 1 t0 (.int .i64 0) (fun t10 w =>
  st1 t10 t9 (fun w =>
  boI .shr t1 (.int .u64 8) (fun t13 w =>
  cvi .u8 t13 (fun t14 w =>
  ixs 1 t0 (.int .i64 1) (fun t15 w =>
  st1 t15 t14 (fun w =>
  boI .shr t1 (.int .u64 16) (fun t18 w =>
  cvi .u8 t18 (fun t19 w =>
  ixs 1 t0 (.int .i64 2) (fun t20 w =>
  st1 t20 t19 (fun w =>
  boI .shr t1 (.int .u64 24) (fun t23 w =>
  cvi .u8 t23 (fun t24 w =>
  ixs 1 t0 (.int .i64 3) (fun t25 w =>
  st1 t25 t24 (fun w =>
  K (.tuple #[]) w) w) w) w) w) w) w) w) w) w) w) w) w) w) w) w) w) w
def s78_p1_den (K : Value → World → Prop) : (Nat → Value) → World → Prop := denL Try.prog [(cd (Try.f78.body.getD .skip) [0]), (cd (Try.f78.body.getD .skip) [1, 0]), (cd (Try.f78.body.getD .skip) [1, 1, 0]), (cd (Try.f78.body.getD .skip) [1, 1, 1, 0]), (cd (Try.f78.body.getD .skip) [1, 1, 1, 1])] (s78_R K) (fun i => (fun _ _ => False)) (s78_R K)
theorem s78_p1_ok (K : Value → World → Prop) (s : Nat → Value) (w : World) (h : s78_p1 K (s 0) (s 1) w) : Tr (s78_p1_den K s w) :=
  tr_simple (P := Try.prog) (codes := [(cd (Try.f78.body.getD .skip) [0]), (cd (Try.f78.body.getD .skip) [1, 0]), (cd (Try.f78.body.getD .skip) [1, 1, 0]), (cd (Try.f78.body.getD .skip) [1, 1, 1, 0]), (cd (Try.f78.body.getD .skip) [1, 1, 1, 1])]) (N := (s78_R K)) (N' := (s78_R K)) (X := (fun i => (fun _ _ => False))) (X' := (fun i => (fun _ _ => False))) (R := s78_R K) (s := s) (w := w) (p := s78_p1 K (s 0) (s 1) w) (q := s78_p1_den K s w) tr_id (fun i => tr_id) (by kernel_rfl) (by kernel_rfl) @h
/-- the call, from the text -/
theorem c78 (t0 t1 : Value) {K : Value → World → Prop} {w : World} (h : s78_p1 K t0 t1 w) : cl Try.prog 78 #[t0, t1] K w :=
  calls_of_tr (c := (Try.f78.body.getD .skip)) (fn := Try.f78) (q := s78_p1_den K (st0 #[t0, t1]) w) Try.func78 (by kernel_rfl) (by kernel_rfl) (Nat.le_of_ble_eq_true (by kernel_rfl)) (by kernel_rfl) (by kernel_rfl) (s78_p1_ok K (st0 #[t0, t1]) w @h)

/-! ### function 79 : e2e.octets.PutBE32 -/
def s79_R (K : Value → World → Prop) (s : Nat → Value) (w : World) : Prop := retv Try.prog s Try.f79.results.toList (fun vs => K (pack vs) w) w
def s79_p1 (K : Value → World → Prop) (t0 t1 : Value) (w : World) : Prop :=
  ixs 1 t0 (.int .i64 3) (fun t5 w =>
  ld1 t5 (fun t6 w =>
  boI .shr t1 (.int .u64 24) (fun t9 w =>
  cvi .u8 t9 (fun t10 w =>
  ixs 1 t0 (.int .i64 0) (fun t11 w =>
  st1 t11 t10 (fun w =>
  boI .shr t1 (.int .u64 16) (fun t14 w =>
  cvi .u8 t14 (fun t15 w =>
  ixs 1 t0 (.int .i64 1) (fun t16 w =>
  st1 t16 t15 (fun w =>
  boI .shr t1 (.int .u64 8) (fun t19 w =>
  cvi .u8 t19 (fun t20 w =>
  ixs 1 t0 (.int .i64 2) (fun t21 w =>
  st1 t21 t20 (fun w =>
  cvi .u8 t1 (fun t24 w =>
  ixs 1 t0 (.int .i64 3) (fun t25 w =>
  st1 t25 t24 (fun w =>
  K (.tuple #[]) w) w) w) w) w) w) w) w) w) w) w) w) w) w) w) w) w) w
def s79_p1_den (K : Value → World → Prop) : (Nat → Value) → World → Prop := denL Try.prog [(cd (Try.f79.body.getD .skip) [0]), (cd (Try.f79.body.getD .skip) [1, 0]), (cd (Try.f79.body.getD .skip) [1, 1, 0]), (cd (Try.f79.body.getD .skip) [1, 1, 1, 0]), (cd (Try.f79.body.getD .skip) [1, 1, 1, 1])] (s79_R K) (fun i => (fun _ _ => False)) (s79_R K)
theorem s79_p1_ok (K : Value → World → Prop) (s : Nat → Value) (w : World) (h : s79_p1 K (s 0) (s 1) w) : Tr (s79_p1_den K s w) :=
  tr_simple (P := Try.prog) (codes := [(cd (Try.f79.body.getD .skip) [0]), (cd (Try.f79.body.getD .skip) [1, 0]), (cd (Try.f79.body.getD .skip) [1, 1, 0]), (cd (Try.f79.body.getD .skip) [1, 1, 1, 0]), (cd (Try.f79.body.getD .skip) [1, 1, 1, 1])]) (N := (s79_R K)) (N' := (s79_R K)) (X := (fun i => (fun _ _ => False))) (X' := (fun i => (fun _ _ => False))) (R := s79_R K) (s := s) (w := w) (p := s79_p1 K (s 0) (s 1) w) (q := s79_p1_den K s w) tr_id (fun i => tr_id) (by kernel_rfl) (by kernel_rfl) @h
/-- the call, from the text -/
theorem c79 (t0 t1 : Value) {K : Value → World → Prop} {w : World} (h : s79_p1 K t0 t1 w) : cl Try.prog 79 #[t0, t1] K w :=
  calls_of_tr (c := (Try.f79.body.getD .skip)) (fn := Try.f79) (q := s79_p1_den K (st0 #[t0, t1]) w) Try.func79 (by kernel_rfl) (by kernel_rfl) (Nat.le_of_ble_eq_true (by kernel_rfl)) (by kernel_rfl) (by kernel_rfl) (s79_p1_ok K (st0 #[t0, t1]) w @h)

/-! ### function 80 : e2e.octets.PutLE64 -/
def s80_R (K : Value → World → Prop) (s : Nat → Value) (w : World) : Prop := retv Try.prog s Try.f80.results.toList (fun vs => K (pack vs) w) w
def s80_p1 (K : Value → World → Prop) (t0 t1 : Value) (w : World) : Prop :=
  ixs 1 t0 (.int .i64 7) (fun t5 w =>
  ld1 t5 (fun t6 w =>
  cvi .u32 t1 (fun t9 w =>
  cl Try.prog 78 #[t0, t9] (fun t10 w =>
  sls 1 t0 (some (.int .i64 4)) none (fun t12 w =>
  boI .shr t1 (.int .u64 32) (fun t14 w =>
  cvi .u32 t14 (fun t15 w =>
  cl Try.prog 78 #[t12, t15] (fun t16 w =>
  K (.tuple #[]) w) w) w) w) w) w) w) w) w
def s80_p1_den (K : Value → World → Prop) : (Nat → Value) → World → Prop := denL Try.prog [(cd (Try.f80.body.getD .skip) [0]), (cd (Try.f80.body.getD .skip) [1, 0]), (cd (Try.f80.body.getD .skip) [1, 1])] (s80_R K) (fun i => (fun _ _ => False)) (s80_R K)
theorem s80_p1_ok (K : Value → World → Prop) (s : Nat → Value) (w : World) (h : s80_p1 K (s 0) (s 1) w) : Tr (s80_p1_den K s w) :=
  tr_simple (P := Try.prog) (codes := [(cd (Try.f80.body.getD .skip) [0]), (cd (Try.f80.body.getD .skip) [1, 0]), (cd (Try.f80.body.getD .skip) [1, 1])]) (N := (s80_R K)) (N' := (s80_R K)) (X := (fun i => (fun _ _ => False))) (X' := (fun i => (fun _ _ => False))) (R := s80_R K) (s := s) (w := w) (p := s80_p1 K (s 0) (s 1) w) (q := s80_p1_den K s w) tr_id (fun i => tr_id) (by kernel_rfl) (by kernel_rfl) @h
/-- the call, from the text -/
theorem c80 (t0 t1 : Value) {K : Value → World → Prop} {w : World} (h : s80_p1 K t0 t1 w) : cl Try.prog 80 #[t0, t1] K w :=
  calls_of_tr (c := (Try.f80.body.getD .skip)) (fn := Try.f80) (q := s80_p1_den K (st0 #[t0, t1]) w) Try.func80 (by kernel_rfl) (by kernel_rfl) (Nat.le_of_ble_eq_true (by kernel_rfl)) (by kernel_rfl) (by kernel_rfl) (s80_p1_ok K (st0 #[t0, t1]) w @h)

/-! ### function 81 : e2e.octets.PutBE64 -/
def s81_R (K : Value → World → Prop) (s : Nat → Value) (w : World) : Prop := retv Try.prog s Try.f81.results.toList (fun vs => K (pack vs) w) w
def s81_p1 (K : Value → World → Prop) (t0 t1 : Value) (w : World) : Prop :=
  ixs 1 t0 (.int .i64 7) (fun t5 w =>
  ld1 t5 (fun t6 w =>
  boI .shr t1 (.int .u64 32) (fun t9 w =>
  cvi .u32 t9 (fun t10 w =>
  cl Try.prog 79 #[t0, t10] (fun t11 w =>
  sls 1 t0 (some (.int .i64 4)) none (fun t13 w =>
  cvi .u32 t1 (fun t15 w =>
  cl Try.prog 79 #[t13, t15] (fun t16 w =>
  K (.tuple #[]) w) w) w) w) w) w) w) w) w
def s81_p1_den (K : Value → World → Prop) : (Nat → Value) → World → Prop := denL Try.prog [(cd (Try.f81.body.getD .skip) [0]), (cd (Try.f81.body.getD .skip) [1, 0]), (cd (Try.f81.body.getD .skip) [1, 1])] (s81_R K) (fun i => (fun _ _ => False)) (s81_R K)
theorem s81_p1_ok (K : Value → World → Prop) (s : Nat → Value) (w : World) (h : s81_p1 K (s 0) (s 1) w) : Tr (s81_p1_den K s w) :=
  tr_simple (P := Try.prog) (codes := [(cd (Try.f81.body.getD .skip) [0]), (cd (Try.f81.body.getD .skip) [1, 0]), (cd (Try.f81.body.getD .skip) [1, 1])]) (N := (s81_R K)) (N' := (s81_R K)) (X := (fun i => (fun _ _ => False))) (X' := (fun i => (fun _ _ => False))) (R := s81_R K) (s := s) (w := w) (p := s81_p1 K (s 0) (s 1) w) (q := s81_p1_den K s w) tr_id (fun i => tr_id) (by kernel_rfl) (by kernel_rfl) @h
/-- the call, from the text -/
theorem c81 (t0 t1 : Value) {K : Value → World → Prop} {w : World} (h : s81_p1 K t0 t1 w) : cl Try.prog 81 #[t0, t1] K w :=
  calls_of_tr (c := (Try.f81.body.getD .skip)) (fn := Try.f81) (q := s81_p1_den K (st0 #[t0, t1]) w) Try.func81 (by kernel_rfl) (by kernel_rfl) (Nat.le_of_ble_eq_true (by kernel_rfl)) (by kernel_rfl) (by kernel_rfl) (s81_p1_ok K (st0 #[t0, t1]) w @h)

/-! ### function 83 : e2e.octets.AppendBE16 -/
def s83_R (K : Value → World → Prop) (s : Nat → Value) (w : World) : Prop := retv Try.prog s Try.f83.results.toList (fun vs => K (pack vs) w) w
def s83_p1 (K : Value → World → Prop) (t0 t1 : Value) (w : World) : Prop :=
  boI .shr t1 (.int .u64 8) (fun t7 w =>
  cvi .u8 t7 (fun t8 w =>
  cvi .u8 t1 (fun t10 w =>
  bsq 5 [(.int .u8 0)] 2 [(some (0, 1), t8), (some (1, 1), t10)] (fun t11 w =>
  apq 5 [(.int .u8 0)] 1 t0 t11 (fun t12 w =>
  K t12 w) w) w) w) w) w
def s83_p1_den (K : Value → World → Prop) : (Nat → Value) → World → Prop := denL Try.prog [(cd (Try.f83.body.getD .skip) [0]), (cd (Try.f83.body.getD .skip) [1, 0]), (cd (Try.f83.body.getD .skip) [1, 1])] (fun _ _ => False) (fun i => (fun _ _ => False)) (s83_R K)
theorem s83_p1_ok (K : Value → World → Prop) (s : Nat → Value) (w : World) (h : s83_p1 K (s 0) (s 1) w) : Tr (s83_p1_den K s w) :=
  tr_simple (P := Try.prog) (codes := [(cd (Try.f83.body.getD .skip) [0]), (cd (Try.f83.body.getD .skip) [1, 0]), (cd (Try.f83.body.getD .skip) [1, 1])]) (N := (fun _ _ => False)) (N' := (fun _ _ => False)) (X := (fun i => (fun _ _ => False))) (X' := (fun i => (fun _ _ => False))) (R := s83_R K) (s := s) (w := w) (p := s83_p1 K (s 0) (s 1) w) (q := s83_p1_den K s w) tr_id (fun i => tr_id) (by kernel_rfl) (by kernel_rfl) @h
/-- the call, from the text -/
theorem c83 (t0 t1 : Value) {K : Value → World → Prop} {w : World} (h : s83_p1 K t0 t1 w) : cl Try.prog 83 #[t0, t1] K w :=
  calls_of_tr (c := (Try.f83.body.getD .skip)) (fn := Try.f83) (q := s83_p1_den K (st0 #[t0, t1]) w) Try.func83 (by kernel_rfl) (by kernel_rfl) (Nat.le_of_ble_eq_true (by kernel_rfl)) (by kernel_rfl) (by kernel_rfl) (s83_p1_ok K (st0 #[t0, t1]) w @h)

/-! ### function 84 : e2e.octets.AppendLE32 -/
def s84_R (K : Value → World → Prop) (s : Nat → Value) (w : World) : Prop := retv Try.prog s Try.f84.results.toList (fun vs => K (pack vs) w) w
def s84_p1 (K : Value → World → Prop) (t0 t1 : Value) (w : World) : Prop :=
  cvi .u8 t1 (fun t7 w =>
  boI .shr t1 (.int .u64 8) (fun t9 w =>
  cvi .u8 t9 (fun t10 w =>
  boI .shr t1 (.int .u64 16) (fun t12 w =>
  cvi .u8 t12 (fun t13 w =>
  boI .shr t1 (.int .u64 24) (fun t15 w =>
  cvi .u8 t15 (fun t16 w =>
  bsq 5 [(.int .u8 0)] 4 [(some (0, 1), t7), (some (1, 1), t10), (some (2, 1), t13), (some (3, 1), t16)] (fun t17 w =>
  apq 5 [(.int .u8 0)] 1 t0 t17 (fun t18 w =>
  K t18 w) w) w) w) w) w) w) w) w) w
def s84_p1_den (K : Value → World → Prop) : (Nat → Value) → World → Prop := denL Try.prog [(cd (Try.f84.body.getD .skip) [0]), (cd (Try.f84.body.getD .skip) [1, 0]), (cd (Try.f84.body.getD .skip) [1, 1])] (fun _ _ => False) (fun i => (fun _ _ => False)) (s84_R K)
theorem s84_p1_ok (K : Value → World → Prop) (s : Nat → Value) (w : World) (h : s84_p1 K (s 0) (s 1) w) : Tr (s84_p1_den K s w) :=
  tr_simple (P := Try.prog) (codes := [(cd (Try.f84.body.getD .skip) [0]), (cd (Try.f84.body.getD .skip) [1, 0]), (cd (Try.f84.body.getD .skip) [1, 1])]) (N := (fun _ _ => False)) (N' := (fun _ _ => False)) (X := (fun i => (fun _ _ => False))) (X' := (fun i => (fun _ _ => False))) (R := s84_R K) (s := s) (w := w) (p := s84_p1 K (s 0) (s 1) w) (q := s84_p1_den K s w) tr_id (fun i => tr_id) (by kernel_rfl) (by kernel_rfl) @h
/-- the call, from the text -/
theorem c84 (t0 t1 : Value) {K : Value → World → Prop} {w : World} (h : s84_p1 K t0 t1 w) : cl Try.prog 84 #[t0, t1] K w :=
  calls_of_tr (c := (Try.f84.body.getD .skip)) (fn := Try.f84) (q := s84_p1_den K (st0 #[t0, t1]) w) Try.func84 (by kernel_rfl) (by kernel_rfl) (Nat.le_of_ble_eq_true (by kernel_rfl)) (by kernel_rfl) (by kernel_rfl) (s84_p1_ok K (st0 #[t0, t1]) w @h)

/-! ### function 85 : e2e.octets.AppendBE32 -/
def s85_R (K : Value → World → Prop) (s : Nat → Value) (w : World) : Prop := retv Try.prog s Try.f85.results.toList (fun vs => K (pack vs) w) w
def s85_p1 (K : Value → World → Prop) (t0 t1 : Value) (w : World) : Prop :=
  boI .shr t1 (.int .u64 24) (fun t7 w =>
  cvi .u8 t7 (fun t8 w =>
  boI .shr t1 (.int .u64 16) (fun t10 w =>
  cvi .u8 t10 (fun t11 w =>
  boI .shr t1 (.int .u64 8) (fun t13 w =>
  cvi .u8 t13 (fun t14 w =>
  cvi .u8 t1 (fun t16 w =>
  bsq 5 [(.int .u8 0)] 4 [(some (0, 1), t8), (some (1, 1), t11), (some (2, 1), t14), (some (3, 1), t16)] (fun t17 w =>
  apq 5 [(.int .u8 0)] 1 t0 t17 (fun t18 w =>
  K t18 w) w) w) w) w) w) w) w) w) w
def s85_p1_den (K : Value → World → Prop) : (Nat → Value) → World → Prop := denL Try.prog [(cd (Try.f85.body.getD .skip) [0]), (cd (Try.f85.body.getD .skip) [1, 0]), (cd (Try.f85.body.getD .skip) [1, 1])] (fun _ _ => False) (fun i => (fun _ _ => False)) (s85_R K)
theorem s85_p1_ok (K : Value → World → Prop) (s : Nat → Value) (w : World) (h : s85_p1 K (s 0) (s 1) w) : Tr (s85_p1_den K s w) :=
  tr_simple (P := Try.prog) (codes := [(cd (Try.f85.body.getD .skip) [0]), (cd (Try.f85.body.getD .skip) [1, 0]), (cd (Try.f85.body.getD .skip) [1, 1])]) (N := (fun _ _ => False)) (N' := (fun _ _ => False)) (X := (fun i => (fun _ _ => False))) (X' := (fun i => (fun _ _ => False))) (R := s85_R K) (s := s) (w := w) (p := s85_p1 K (s 0) (s 1) w) (q := s85_p1_den K s w) tr_id (fun i => tr_id) (by kernel_rfl) (by kernel_rfl) @h
/-- the call, from the text -/
theorem c85 (t0 t1 : Value) {K : Value → World → Prop} {w : World} (h : s85_p1 K t0 t1 w) : cl Try.prog 85 #[t0, t1] K w :=
  calls_of_tr (c := (Try.f85.body.getD .skip)) (fn := Try.f85) (q := s85_p1_den K (st0 #[t0, t1]) w) Try.func85 (by kernel_rfl) (by kernel_rfl) (Nat.le_of_ble_eq_true (by kernel_rfl)) (by kernel_rfl) (by kernel_rfl) (s85_p1_ok K (st0 #[t0, t1]) w @h)

/-! ### function 86 : e2e.octets.AppendLE64 -/
def s86_R (K : Value → World → Prop) (s : Nat → Value) (w : World) : Prop := retv Try.prog s Try.f86.results.toList (fun vs => K (pack vs) w) w
def s86_p1 (K : Value → World → Prop) (t0 t1 : Value) (w : World) : Prop :=
  cvi .u32 t1 (fun t7 w =>
  cl Try.prog 84 #[t0, t7] (fun t8 w =>
  boI .shr t1 (.int .u64 32) (fun t10 w =>
  cvi .u32 t10 (fun t11 w =>
  cl Try.prog 84 #[t8, t11] (fun t12 w =>
  K t12 w) w) w) w) w) w
def s86_p1_den (K : Value → World → Prop) : (Nat → Value) → World → Prop := denL Try.prog [(cd (Try.f86.body.getD .skip) [0]), (cd (Try.f86.body.getD .skip) [1, 0]), (cd (Try.f86.body.getD .skip) [1, 1])] (fun _ _ => False) (fun i => (fun _ _ => False)) (s86_R K)
theorem s86_p1_ok (K : Value → World → Prop) (s : Nat → Value) (w : World) (h : s86_p1 K (s 0) (s 1) w) : Tr (s86_p1_den K s w) :=
  tr_simple (P := Try.prog) (codes := [(cd (Try.f86.body.getD .skip) [0]), (cd (Try.f86.body.getD .skip) [1, 0]), (cd (Try.f86.body.getD .skip) [1, 1])]) (N := (fun _ _ => False)) (N' := (fun _ _ => False)) (X := (fun i => (fun _ _ => False))) (X' := (fun i => (fun _ _ => False))) (R := s86_R K) (s := s) (w := w) (p := s86_p1 K (s 0) (s 1) w) (q := s86_p1_den K s w) tr_id (fun i => tr_id) (by kernel_rfl) (by kernel_rfl) @h
/-- the call, from the text -/
theorem c86 (t0 t1 : Value) {K : Value → World → Prop} {w : World} (h : s86_p1 K t0 t1 w) : cl Try.prog 86 #[t0, t1] K w :=
  calls_of_tr (c := (Try.f86.body.getD .skip)) (fn := Try.f86) (q := s86_p1_den K (st0 #[t0, t1]) w) Try.func86 (by kernel_rfl) (by kernel_rfl) (Nat.le_of_ble_eq_true (by kernel_rfl)) (by kernel_rfl) (by kernel_rfl) (s86_p1_ok K (st0 #[t0, t1]) w @h)

/-! ### function 87 : e2e.octets.AppendBE64 -/
def s87_R (K : Value → World → Prop) (s : Nat → Value) (w : World) : Prop := retv Try.prog s Try.f87.results.toList (fun vs => K (pack vs) w) w
def s87_p1 (K : Value → World → Prop) (t0 t1 : Value) (w : World) : Prop :=
  boI .shr t1 (.int .u64 32) (fun t7 w =>
  cvi .u32 t7 (fun t8 w =>
  cl Try.prog 85 #[t0, t8] (fun t9 w =>
  cvi .u32 t1 (fun t11 w =>
  cl Try.prog 85 #[t9, t11] (fun t12 w =>
  K t12 w) w) w) w) w) w
def s87_p1_den (K : Value → World → Prop) : (Nat → Value) → World → Prop := denL Try.prog [(cd (Try.f87.body.getD .skip) [0]), (cd (Try.f87.body.getD .skip) [1, 0]), (cd (Try.f87.body.getD .skip) [1, 1])] (fun _ _ => False) (fun i => (fun _ _ => False)) (s87_R K)
theorem s87_p1_ok (K : Value → World → Prop) (s : Nat → Value) (w : World) (h : s87_p1 K (s 0) (s 1) w) : Tr (s87_p1_den K s w) :=
  tr_simple (P := Try.prog) (codes := [(cd (Try.f87.body.getD .skip) [0]), (cd (Try.f87.body.getD .skip) [1, 0]), (cd (Try.f87.body.getD .skip) [1, 1])]) (N := (fun _ _ => False)) (N' := (fun _ _ => False)) (X := (fun i => (fun _ _ => False))) (X' := (fun i => (fun _ _ => False))) (R := s87_R K) (s := s) (w := w) (p := s87_p1 K (s 0) (s 1) w) (q := s87_p1_den K s w) tr_id (fun i => tr_id) (by kernel_rfl) (by kernel_rfl) @h
/-- the call, from the text -/
theorem c87 (t0 t1 : Value) {K : Value → World → Prop} {w : World} (h : s87_p1 K t0 t1 w) : cl Try.prog 87 #[t0, t1] K w :=
  calls_of_tr (c := (Try.f87.body.getD .skip)) (fn := Try.f87) (q := s87_p1_den K (st0 #[t0, t1]) w) Try.func87 (by kernel_rfl) (by kernel_rfl) (Nat.le_of_ble_eq_true (by kernel_rfl)) (by kernel_rfl) (by kernel_rfl) (s87_p1_ok K (st0 #[t0, t1]) w @h)

/-! ### function 88 : e2e.octets.turns -/
def s88_R (K : Value → World → Prop) (s : Nat → Value) (w : World) : Prop := retv Try.prog s Try.f88.results.toList (fun vs => K (pack vs) w) w
def s88_p1 (K : Value → World → Prop) (t0 : Value) (w : World) : Prop :=
  K t0 w
def s88_p1_den (K : Value → World → Prop) : (Nat → Value) → World → Prop := denL Try.prog [(cd (Try.f88.body.getD .skip) [1, 1, 1, 0]), (cd (Try.f88.body.getD .skip) [1, 1, 1, 1])] (fun _ _ => False) (fun i => (fun _ _ => False)) (s88_R K)
theorem s88_p1_ok (K : Value → World → Prop) (s : Nat → Value) (w : World) (h : s88_p1 K (s 0) w) : Tr (s88_p1_den K s w) :=
  tr_simple (P := Try.prog) (codes := [(cd (Try.f88.body.getD .skip) [1, 1, 1, 0]), (cd (Try.f88.body.getD .skip) [1, 1, 1, 1])]) (N := (fun _ _ => False)) (N' := (fun _ _ => False)) (X := (fun i => (fun _ _ => False))) (X' := (fun i => (fun _ _ => False))) (R := s88_R K) (s := s) (w := w) (p := s88_p1 K (s 0) w) (q := s88_p1_den K s w) tr_id (fun i => tr_id) (by kernel_rfl) (by kernel_rfl) @h
def s88_p2 (K : Value → World → Prop) (t0 t1 : Value) (w : World) : Prop :=
  boI .rem t0 t1 (fun t7 w =>
  boI .lss t7 (.int .i64 0) (fun t9 w =>
  ifb t9
  (boI .add t7 t1 (fun t12 w =>
  s88_p1 K t12 w) w)
  (s88_p1 K t7 w)) w) w
def s88_p2_den (K : Value → World → Prop) : (Nat → Value) → World → Prop := denL Try.prog [(cd (Try.f88.body.getD .skip) [0]), (cd (Try.f88.body.getD .skip) [1, 0]), (cd (Try.f88.body.getD .skip) [1, 1, 0, 0]), (cd (Try.f88.body.getD .skip) [1, 1, 0, 1])] (s88_p1_den K) (fun i => (fun _ _ => False)) (s88_R K)
theorem s88_p2_ok (K : Value → World → Prop) (s : Nat → Value) (w : World) (h : s88_p2 K (s 0) (s 1) w) : Tr (s88_p2_den K s w) :=
  tr_simple (P := Try.prog) (codes := [(cd (Try.f88.body.getD .skip) [0]), (cd (Try.f88.body.getD .skip) [1, 0]), (cd (Try.f88.body.getD .skip) [1, 1, 0, 0]), (cd (Try.f88.body.getD .skip) [1, 1, 0, 1])]) (N := (fun s w => s88_p1 K (s 0) w)) (N' := (s88_p1_den K)) (X := (fun i => (fun _ _ => False))) (X' := (fun i => (fun _ _ => False))) (R := s88_R K) (s := s) (w := w) (p := s88_p2 K (s 0) (s 1) w) (q := s88_p2_den K s w) (fun s w h => s88_p1_ok K s w @h) (fun i => tr_id) (by kernel_rfl) (by kernel_rfl) @h
/-- the call, from the text -/
theorem c88 (t0 t1 : Value) {K : Value → World → Prop} {w : World} (h : s88_p2 K t0 t1 w) : cl Try.prog 88 #[t0, t1] K w :=
  calls_of_tr (c := (Try.f88.body.getD .skip)) (fn := Try.f88) (q := s88_p2_den K (st0 #[t0, t1]) w) Try.func88 (by kernel_rfl) (by kernel_rfl) (Nat.le_of_ble_eq_true (by kernel_rfl)) (by kernel_rfl) (by kernel_rfl) (s88_p2_ok K (st0 #[t0, t1]) w @h)

/-! ### function 89 : e2e.octets.reverse -/
def s89_R (K : Value → World → Prop) (s : Nat → Value) (w : World) : Prop := retv Try.prog s Try.f89.results.toList (fun vs => K (pack vs) w) w
def s89_p1 (K : Value → World → Prop) (B1 : List Value → World → Prop) (t0 t2 t3 : Value) (w : World) : Prop :=
  boI .add t2 (.int .i64 1) (fun t11 w =>
  boI .sub t3 (.int .i64 1) (fun t13 w =>
  B1 [t0, t11, t13] w) w) w
def s89_p1_den (K : Value → World → Prop) (M1 : (Nat → Value) → World → Prop) : (Nat → Value) → World → Prop := denL Try.prog [(cd (Try.f89.body.getD .skip) [1, 0, 0, 1, 1])] M1 (fun i => (bif Nat.beq i 0 then (s89_R K) else (fun _ _ => False))) (s89_R K)
theorem s89_p1_ok (K : Value → World → Prop) (B1 : List Value → World → Prop) (s : Nat → Value) (w : World) (h : s89_p1 K B1 (s 0) (s 2) (s 3) w) : Tr (s89_p1_den K (fun s w => B1 [s 0, s 2, s 3] w) s w) :=
  tr_simple (P := Try.prog) (codes := [(cd (Try.f89.body.getD .skip) [1, 0, 0, 1, 1])]) (N := (fun s w => B1 [s 0, s 2, s 3] w)) (N' := (fun s w => B1 [s 0, s 2, s 3] w)) (X := (fun i => (bif Nat.beq i 0 then (s89_R K) else (fun _ _ => False)))) (X' := (fun i => (bif Nat.beq i 0 then (s89_R K) else (fun _ _ => False)))) (R := s89_R K) (s := s) (w := w) (p := s89_p1 K B1 (s 0) (s 2) (s 3) w) (q := s89_p1_den K (fun s w => B1 [s 0, s 2, s 3] w) s w) tr_id (fun i => (tr_bif tr_id tr_id)) (by kernel_rfl) (by kernel_rfl) @h
def s89_p2_d (K : Value → World → Prop) (B1 : List Value → World → Prop) (t0 t2 t3 : Value) (w0 w : World) : Prop :=
  ixs 1 t0 t3 (fun t20 _ =>
  ld1 t20 (fun t21 _ =>
  ixs 1 t0 t2 (fun t24 _ =>
  ld1 t24 (fun t25 _ =>
  ixs 1 t0 t2 (fun t26 _ =>
  ixs 1 t0 t3 (fun t27 _ =>
  st1 t26 t21 (fun w =>
  st1 t27 t25 (fun w =>
  s89_p1 K B1 t0 t2 t3 w) w) w) w0) w0) w0) w0) w0) w0
def s89_p2 (K : Value → World → Prop) (B1 : List Value → World → Prop) (t0 t2 t3 : Value) (w : World) : Prop := s89_p2_d K B1 t0 t2 t3 (drw w) (drw w)
def s89_p2_den (K : Value → World → Prop) (M1 : (Nat → Value) → World → Prop) : (Nat → Value) → World → Prop := denL Try.prog [(cd (Try.f89.body.getD .skip) [1, 0, 0, 1, 0, 0])] (s89_p1_den K M1) (fun i => (bif Nat.beq i 1 then (s89_p1_den K M1) else (bif Nat.beq i 0 then (s89_R K) else (fun _ _ => False)))) (s89_R K)
theorem s89_p2_ok (K : Value → World → Prop) (B1 : List Value → World → Prop) (s : Nat → Value) (w : World) (h : s89_p2 K B1 (s 0) (s 2) (s 3) w) : Tr (s89_p2_den K (fun s w => B1 [s 0, s 2, s 3] w) s w) :=
  tr_draw (P := Try.prog) (ops := (ro (cd (Try.f89.body.getD .skip) [1, 0, 0, 1, 0, 0]))) (ms := [0, 0, 0, 0, 0, 0, 48, 112, 0, 0, 768, 1792, 4083, 8179, 16383, 32767]) (cs := [0, 1, 2, 3, 4, 5, 6, 7, 8, 9, 10, 11, 12, 14]) (N := (fun s w => s89_p1 K B1 (s 0) (s 2) (s 3) w)) (N' := (s89_p1_den K (fun s w => B1 [s 0, s 2, s 3] w))) (s := s) (w := w) (p := s89_p2 K B1 (s 0) (s 2) (s 3) w) (q := s89_p2_den K (fun s w => B1 [s 0, s 2, s 3] w) s w) (by kernel_rfl) (by kernel_rfl) (fun s w h => s89_p1_ok K B1 s w @h) (by kernel_rfl) (by kernel_rfl) @h
def s89_p3 (K : Value → World → Prop) (B1 : List Value → World → Prop) (t0 t2 t3 : Value) (w : World) : Prop :=
  boI .lss t2 t3 (fun t9 w =>
  ifb t9
  (s89_p2 K B1 t0 t2 t3 w)
  (K (.tuple #[]) w)) w
def s89_p3_den (K : Value → World → Prop) (M1 : (Nat → Value) → World → Prop) : (Nat → Value) → World → Prop := denL Try.prog [(cd (Try.f89.body.getD .skip) [1, 0, 0, 0, 0]), (cd (Try.f89.body.getD .skip) [1, 0, 0, 0, 1])] (s89_p2_den K M1) (fun i => (bif Nat.beq i 0 then (s89_R K) else (fun _ _ => False))) (s89_R K)
theorem s89_p3_ok (K : Value → World → Prop) (B1 : List Value → World → Prop) (s : Nat → Value) (w : World) (h : s89_p3 K B1 (s 0) (s 2) (s 3) w) : Tr (s89_p3_den K (fun s w => B1 [s 0, s 2, s 3] w) s w) :=
  tr_simple (P := Try.prog) (codes := [(cd (Try.f89.body.getD .skip) [1, 0, 0, 0, 0]), (cd (Try.f89.body.getD .skip) [1, 0, 0, 0, 1])]) (N := (fun s w => s89_p2 K B1 (s 0) (s 2) (s 3) w)) (N' := (s89_p2_den K (fun s w => B1 [s 0, s 2, s 3] w))) (X := (fun i => (bif Nat.beq i 0 then (s89_R K) else (fun _ _ => False)))) (X' := (fun i => (bif Nat.beq i 0 then (s89_R K) else (fun _ _ => False)))) (R := s89_R K) (s := s) (w := w) (p := s89_p3 K B1 (s 0) (s 2) (s 3) w) (q := s89_p3_den K (fun s w => B1 [s 0, s 2, s 3] w) s w) (fun s w h => s89_p2_ok K B1 s w @h) (fun i => (tr_bif tr_id tr_id)) (by kernel_rfl) (by kernel_rfl) @h
def s89_p4_F (K : Value → World → Prop) (B1 : List Value → World → Prop) (l : List Value) (w : World) : Prop :=
  match l with
  | [t0, t2, t3] => s89_p3 K B1 t0 t2 t3 w
  | _ => False
theorem s89_p4_Fe {K : Value → World → Prop} {B1 : List Value → World → Prop} {t0 t2 t3 : Value} {w : World} : s89_p4_F K B1 [t0, t2, t3] w = s89_p3 K B1 t0 t2 t3 w := by kernel_rfl
def s89_p4 (K : Value → World → Prop) (t0 t2 t3 : Value) (w : World) : Prop :=
  LoopL (s89_p4_F K) [t0, t2, t3] w
def s89_p4_den (K : Value → World → Prop) : (Nat → Value) → World → Prop := fun s w => LoopP (fun M1 s w => s89_p3_den K M1 s w) s w
theorem s89_p4_ok (K : Value → World → Prop) (s : Nat → Value) (w : World) (h : s89_p4 K (s 0) (s 2) (s 3) w) : Tr (s89_p4_den K s w) :=
  tr_loop (G := fun N' s w => s89_p3_den K N' s w) (F := s89_p4_F K) (sel := fun s => [s 0, s 2, s 3]) (s := s) (w := w) (p := s89_p4 K (s 0) (s 2) (s 3) w) (q := s89_p4_den K s w) (fun B s w h => s89_p3_ok K B s w @h) (by kernel_rfl) (by kernel_rfl) @h
def s89_p5 (K : Value → World → Prop) (t0 : Value) (w : World) : Prop :=
  lnS t0 (fun t5 w =>
  boI .sub t5 (.int .i64 1) (fun t6 w =>
  s89_p4 K t0 (.int .i64 0) t6 w) w) w
def s89_p5_den (K : Value → World → Prop) : (Nat → Value) → World → Prop := denL Try.prog [(cd (Try.f89.body.getD .skip) [0])] (s89_p4_den K) (fun i => (fun _ _ => False)) (s89_R K)
theorem s89_p5_ok (K : Value → World → Prop) (s : Nat → Value) (w : World) (h : s89_p5 K (s 0) w) : Tr (s89_p5_den K s w) :=
  tr_simple (P := Try.prog) (codes := [(cd (Try.f89.body.getD .skip) [0])]) (N := (fun s w => s89_p4 K (s 0) (s 2) (s 3) w)) (N' := (s89_p4_den K)) (X := (fun i => (fun _ _ => False))) (X' := (fun i => (fun _ _ => False))) (R := s89_R K) (s := s) (w := w) (p := s89_p5 K (s 0) w) (q := s89_p5_den K s w) (fun s w h => s89_p4_ok K s w @h) (fun i => tr_id) (by kernel_rfl) (by kernel_rfl) @h
/-- the call, from the text -/
theorem c89 (t0 : Value) {K : Value → World → Prop} {w : World} (h : s89_p5 K t0 w) : cl Try.prog 89 #[t0] K w :=
  calls_of_tr (c := (Try.f89.body.getD .skip)) (fn := Try.f89) (q := s89_p5_den K (st0 #[t0]) w) Try.func89 (by kernel_rfl) (by kernel_rfl) (Nat.le_of_ble_eq_true (by kernel_rfl)) (by kernel_rfl) (by kernel_rfl) (s89_p5_ok K (st0 #[t0]) w @h)

/-! ### function 90 : e2e.octets.bringRound -/
def s90_R (K : Value → World → Prop) (s : Nat → Value) (w : World) : Prop := retv Try.prog s Try.f90.results.toList (fun vs => K (pack vs) w) w
def s90_p1 (K : Value → World → Prop) (B1 : List Value → World → Prop) (B2 : List Value → World → Prop) (t0 t1 t4 : Value) (w : World) : Prop :=
  boI .geq t4 (.int .i64 0) (fun t11 w =>
  gd t11 true (fun K w => K t1 w) (fun t13 w =>
  gd t11 true (boI .neq t13 (.int .u64 0)) (fun t14 w =>
  pk t11 t14 (.bool false) (fun t15 w =>
  ifb t15
  (ixs 1 t0 t4 (fun t21 w =>
  ld1 t21 (fun t22 w =>
  cvi .u64 t22 (fun t23 w =>
  boI .add t1 t23 (fun t24 w =>
  cvi .u8 t24 (fun t28 w =>
  ixs 1 t0 t4 (fun t29 w =>
  st1 t29 t28 (fun w =>
  boI .shr t24 (.int .u64 8) (fun t31 w =>
  boI .sub t4 (.int .i64 1) (fun t17 w =>
  B2 [t0, t31, t17] w) w) w) w) w) w) w) w) w) w)
  (B1 [t0, t1] w)) w) w) w) w
def s90_p1_den (K : Value → World → Prop) (M1 : (Nat → Value) → World → Prop) (M2 : (Nat → Value) → World → Prop) : (Nat → Value) → World → Prop := denL Try.prog [(cd (Try.f90.body.getD .skip) [0, 0, 1, 0, 1, 0, 0, 0, 0]), (cd (Try.f90.body.getD .skip) [0, 0, 1, 0, 1, 0, 0, 0, 1]), (cd (Try.f90.body.getD .skip) [0, 0, 1, 0, 1, 0, 0, 1, 0]), (cd (Try.f90.body.getD .skip) [0, 0, 1, 0, 1, 0, 0, 1, 1])] M2 (fun i => (bif Nat.beq i 2 then M1 else (bif Nat.beq i 1 then M1 else (bif Nat.beq i 0 then (s90_R K) else (fun _ _ => False))))) (s90_R K)
theorem s90_p1_ok (K : Value → World → Prop) (B1 : List Value → World → Prop) (B2 : List Value → World → Prop) (s : Nat → Value) (w : World) (h : s90_p1 K B1 B2 (s 0) (s 1) (s 4) w) : Tr (s90_p1_den K (fun s w => B1 [s 0, s 1] w) (fun s w => B2 [s 0, s 1, s 4] w) s w) :=
  tr_simple (P := Try.prog) (codes := [(cd (Try.f90.body.getD .skip) [0, 0, 1, 0, 1, 0, 0, 0, 0]), (cd (Try.f90.body.getD .skip) [0, 0, 1, 0, 1, 0, 0, 0, 1]), (cd (Try.f90.body.getD .skip) [0, 0, 1, 0, 1, 0, 0, 1, 0]), (cd (Try.f90.body.getD .skip) [0, 0, 1, 0, 1, 0, 0, 1, 1])]) (N := (fun s w => B2 [s 0, s 1, s 4] w)) (N' := (fun s w => B2 [s 0, s 1, s 4] w)) (X := (fun i => (bif Nat.beq i 2 then (fun s w => B1 [s 0, s 1] w) else (bif Nat.beq i 1 then (fun s w => B1 [s 0, s 1] w) else (bif Nat.beq i 0 then (s90_R K) else (fun _ _ => False)))))) (X' := (fun i => (bif Nat.beq i 2 then (fun s w => B1 [s 0, s 1] w) else (bif Nat.beq i 1 then (fun s w => B1 [s 0, s 1] w) else (bif Nat.beq i 0 then (s90_R K) else (fun _ _ => False)))))) (R := s90_R K) (s := s) (w := w) (p := s90_p1 K B1 B2 (s 0) (s 1) (s 4) w) (q := s90_p1_den K (fun s w => B1 [s 0, s 1] w) (fun s w => B2 [s 0, s 1, s 4] w) s w) tr_id (fun i => (tr_bif tr_id (tr_bif tr_id (tr_bif tr_id tr_id)))) (by kernel_rfl) (by kernel_rfl) @h
def s90_p2_F (K : Value → World → Prop) (B1 : List Value → World → Prop) (B2 : List Value → World → Prop) (l : List Value) (w : World) : Prop :=
  match l with
  | [t0, t1, t4] => s90_p1 K B1 B2 t0 t1 t4 w
  | _ => False
theorem s90_p2_Fe {K : Value → World → Prop} {B1 : List Value → World → Prop} {B2 : List Value → World → Prop} {t0 t1 t4 : Value} {w : World} : s90_p2_F K B1 B2 [t0, t1, t4] w = s90_p1 K B1 B2 t0 t1 t4 w := by kernel_rfl
def s90_p2 (K : Value → World → Prop) (B1 : List Value → World → Prop) (t0 t1 t4 : Value) (w : World) : Prop :=
  LoopL (s90_p2_F K B1) [t0, t1, t4] w
def s90_p2_den (K : Value → World → Prop) (M1 : (Nat → Value) → World → Prop) : (Nat → Value) → World → Prop := fun s w => LoopP (fun M2 s w => s90_p1_den K M1 M2 s w) s w
theorem s90_p2_ok (K : Value → World → Prop) (B1 : List Value → World → Prop) (s : Nat → Value) (w : World) (h : s90_p2 K B1 (s 0) (s 1) (s 4) w) : Tr (s90_p2_den K (fun s w => B1 [s 0, s 1] w) s w) :=
  tr_loop (G := fun N' s w => s90_p1_den K (fun s w => B1 [s 0, s 1] w) N' s w) (F := s90_p2_F K B1) (sel := fun s => [s 0, s 1, s 4]) (s := s) (w := w) (p := s90_p2 K B1 (s 0) (s 1) (s 4) w) (q := s90_p2_den K (fun s w => B1 [s 0, s 1] w) s w) (fun B s w h => s90_p1_ok K B1 B s w @h) (by kernel_rfl) (by kernel_rfl) @h
def s90_p3 (K : Value → World → Prop) (B1 : List Value → World → Prop) (t0 t1 : Value) (w : World) : Prop :=
  lnS t0 (fun t8 w =>
  boI .sub t8 (.int .i64 1) (fun t9 w =>
  s90_p2 K B1 t0 t1 t9 w) w) w
def s90_p3_den (K : Value → World → Prop) (M1 : (Nat → Value) → World → Prop) : (Nat → Value) → World → Prop := denL Try.prog [(cd (Try.f90.body.getD .skip) [0, 0, 1, 0, 0])] (s90_p2_den K M1) (fun i => (bif Nat.beq i 1 then M1 else (bif Nat.beq i 0 then (s90_R K) else (fun _ _ => False)))) (s90_R K)
theorem s90_p3_ok (K : Value → World → Prop) (B1 : List Value → World → Prop) (s : Nat → Value) (w : World) (h : s90_p3 K B1 (s 0) (s 1) w) : Tr (s90_p3_den K (fun s w => B1 [s 0, s 1] w) s w) :=
  tr_simple (P := Try.prog) (codes := [(cd (Try.f90.body.getD .skip) [0, 0, 1, 0, 0])]) (N := (fun s w => s90_p2 K B1 (s 0) (s 1) (s 4) w)) (N' := (s90_p2_den K (fun s w => B1 [s 0, s 1] w))) (X := (fun i => (bif Nat.beq i 1 then (fun s w => B1 [s 0, s 1] w) else (bif Nat.beq i 0 then (s90_R K) else (fun _ _ => False))))) (X' := (fun i => (bif Nat.beq i 1 then (fun s w => B1 [s 0, s 1] w) else (bif Nat.beq i 0 then (s90_R K) else (fun _ _ => False))))) (R := s90_R K) (s := s) (w := w) (p := s90_p3 K B1 (s 0) (s 1) w) (q := s90_p3_den K (fun s w => B1 [s 0, s 1] w) s w) (fun s w h => s90_p2_ok K B1 s w @h) (fun i => (tr_bif tr_id (tr_bif tr_id tr_id))) (by kernel_rfl) (by kernel_rfl) @h
def s90_p4 (K : Value → World → Prop) (B1 : List Value → World → Prop) (t0 t1 : Value) (w : World) : Prop :=
  boI .neq t1 (.int .u64 0) (fun t6 w =>
  ifb t6
  (s90_p3 K B1 t0 t1 w)
  (K (.tuple #[]) w)) w
def s90_p4_den (K : Value → World → Prop) (M1 : (Nat → Value) → World → Prop) : (Nat → Value) → World → Prop := denL Try.prog [(cd (Try.f90.body.getD .skip) [0, 0, 0, 0]), (cd (Try.f90.body.getD .skip) [0, 0, 0, 1])] (s90_p3_den K M1) (fun i => (bif Nat.beq i 0 then (s90_R K) else (fun _ _ => False))) (s90_R K)
theorem s90_p4_ok (K : Value → World → Prop) (B1 : List Value → World → Prop) (s : Nat → Value) (w : World) (h : s90_p4 K B1 (s 0) (s 1) w) : Tr (s90_p4_den K (fun s w => B1 [s 0, s 1] w) s w) :=
  tr_simple (P := Try.prog) (codes := [(cd (Try.f90.body.getD .skip) [0, 0, 0, 0]), (cd (Try.f90.body.getD .skip) [0, 0, 0, 1])]) (N := (fun s w => s90_p3 K B1 (s 0) (s 1) w)) (N' := (s90_p3_den K (fun s w => B1 [s 0, s 1] w))) (X := (fun i => (bif Nat.beq i 0 then (s90_R K) else (fun _ _ => False)))) (X' := (fun i => (bif Nat.beq i 0 then (s90_R K) else (fun _ _ => False)))) (R := s90_R K) (s := s) (w := w) (p := s90_p4 K B1 (s 0) (s 1) w) (q := s90_p4_den K (fun s w => B1 [s 0, s 1] w) s w) (fun s w h => s90_p3_ok K B1 s w @h) (fun i => (tr_bif tr_id tr_id)) (by kernel_rfl) (by kernel_rfl) @h
def s90_p5_F (K : Value → World → Prop) (B1 : List Value → World → Prop) (l : List Value) (w : World) : Prop :=
  match l with
  | [t0, t1] => s90_p4 K B1 t0 t1 w
  | _ => False
theorem s90_p5_Fe {K : Value → World → Prop} {B1 : List Value → World → Prop} {t0 t1 : Value} {w : World} : s90_p5_F K B1 [t0, t1] w = s90_p4 K B1 t0 t1 w := by kernel_rfl
def s90_p5 (K : Value → World → Prop) (t0 t1 : Value) (w : World) : Prop :=
  LoopL (s90_p5_F K) [t0, t1] w
def s90_p5_den (K : Value → World → Prop) : (Nat → Value) → World → Prop := fun s w => LoopP (fun M1 s w => s90_p4_den K M1 s w) s w
theorem s90_p5_ok (K : Value → World → Prop) (s : Nat → Value) (w : World) (h : s90_p5 K (s 0) (s 1) w) : Tr (s90_p5_den K s w) :=
  tr_loop (G := fun N' s w => s90_p4_den K N' s w) (F := s90_p5_F K) (sel := fun s => [s 0, s 1]) (s := s) (w := w) (p := s90_p5 K (s 0) (s 1) w) (q := s90_p5_den K s w) (fun B s w h => s90_p4_ok K B s w @h) (by kernel_rfl) (by kernel_rfl) @h
/-- the call, from the text -/
theorem c90 (t0 t1 : Value) {K : Value → World → Prop} {w : World} (h : s90_p5 K t0 t1 w) : cl Try.prog 90 #[t0, t1] K w :=
  calls_of_tr (c := (Try.f90.body.getD .skip)) (fn := Try.f90) (q := s90_p5_den K (st0 #[t0, t1]) w) Try.func90 (by kernel_rfl) (by kernel_rfl) (Nat.le_of_ble_eq_true (by kernel_rfl)) (by kernel_rfl) (by kernel_rfl) (s90_p5_ok K (st0 #[t0, t1]) w @h)

/-! ### function 92 : (*e2e.octets.Reader).LE16 -/
def s92_R (K : Value → World → Prop) (s : Nat → Value) (w : World) : Prop := retv Try.prog s Try.f92.results.toList (fun vs => K (pack vs) w) w
def s92_p1 (K : Value → World → Prop) (t0 : Value) (w : World) : Prop :=
  cl Try.prog 98 #[t0, (.int .i64 2)] (fun t5 w =>
  boZ .neq t5 (.slice none 0 0) (fun t7 w =>
  ifb t7
  (cl Try.prog 73 #[t5] (fun t9 w =>
  K t9 w) w)
  (K (.int .u16 0) w)) w) w
def s92_p1_den (K : Value → World → Prop) : (Nat → Value) → World → Prop := denL Try.prog [(cd (Try.f92.body.getD .skip) [0]), (cd (Try.f92.body.getD .skip) [1, 0, 0]), (cd (Try.f92.body.getD .skip) [1, 0, 1, 0]), (cd (Try.f92.body.getD .skip) [1, 0, 1, 1]), (cd (Try.f92.body.getD .skip) [1, 1, 0]), (cd (Try.f92.body.getD .skip) [1, 1, 1])] (fun _ _ => False) (fun i => (fun _ _ => False)) (s92_R K)
theorem s92_p1_ok (K : Value → World → Prop) (s : Nat → Value) (w : World) (h : s92_p1 K (s 0) w) : Tr (s92_p1_den K s w) :=
  tr_simple (P := Try.prog) (codes := [(cd (Try.f92.body.getD .skip) [0]), (cd (Try.f92.body.getD .skip) [1, 0, 0]), (cd (Try.f92.body.getD .skip) [1, 0, 1, 0]), (cd (Try.f92.body.getD .skip) [1, 0, 1, 1]), (cd (Try.f92.body.getD .skip) [1, 1, 0]), (cd (Try.f92.body.getD .skip) [1, 1, 1])]) (N := (fun _ _ => False)) (N' := (fun _ _ => False)) (X := (fun i => (fun _ _ => False))) (X' := (fun i => (fun _ _ => False))) (R := s92_R K) (s := s) (w := w) (p := s92_p1 K (s 0) w) (q := s92_p1_den K s w) tr_id (fun i => tr_id) (by kernel_rfl) (by kernel_rfl) @h
/-- the call, from the text -/
theorem c92 (t0 : Value) {K : Value → World → Prop} {w : World} (h : s92_p1 K t0 w) : cl Try.prog 92 #[t0] K w :=
  calls_of_tr (c := (Try.f92.body.getD .skip)) (fn := Try.f92) (q := s92_p1_den K (st0 #[t0]) w) Try.func92 (by kernel_rfl) (by kernel_rfl) (Nat.le_of_ble_eq_true (by kernel_rfl)) (by kernel_rfl) (by kernel_rfl) (s92_p1_ok K (st0 #[t0]) w @h)

/-! ### function 93 : (*e2e.octets.Reader).BE16 -/
def s93_R (K : Value → World → Prop) (s : Nat → Value) (w : World) : Prop := retv Try.prog s Try.f93.results.toList (fun vs => K (pack vs) w) w
def s93_p1 (K : Value → World → Prop) (t0 : Value) (w : World) : Prop :=
  cl Try.prog 98 #[t0, (.int .i64 2)] (fun t5 w =>
  boZ .neq t5 (.slice none 0 0) (fun t7 w =>
  ifb t7
  (cl Try.prog 74 #[t5] (fun t9 w =>
  K t9 w) w)
  (K (.int .u16 0) w)) w) w
def s93_p1_den (K : Value → World → Prop) : (Nat → Value) → World → Prop := denL Try.prog [(cd (Try.f93.body.getD .skip) [0]), (cd (Try.f93.body.getD .skip) [1, 0, 0]), (cd (Try.f93.body.getD .skip) [1, 0, 1, 0]), (cd (Try.f93.body.getD .skip) [1, 0, 1, 1]), (cd (Try.f93.body.getD .skip) [1, 1, 0]), (cd (Try.f93.body.getD .skip) [1, 1, 1])] (fun _ _ => False) (fun i => (fun _ _ => False)) (s93_R K)
theorem s93_p1_ok (K : Value → World → Prop) (s : Nat → Value) (w : World) (h : s93_p1 K (s 0) w) : Tr (s93_p1_den K s w) :=
  tr_simple (P := Try.prog) (codes := [(cd (Try.f93.body.getD .skip) [0]), (cd (Try.f93.body.getD .skip) [1, 0, 0]), (cd (Try.f93.body.getD .skip) [1, 0, 1, 0]), (cd (Try.f93.body.getD .skip) [1, 0, 1, 1]), (cd (Try.f93.body.getD .skip) [1, 1, 0]), (cd (Try.f93.body.getD .skip) [1, 1, 1])]) (N := (fun _ _ => False)) (N' := (fun _ _ => False)) (X := (fun i => (fun _ _ => False))) (X' := (fun i => (fun _ _ => False))) (R := s93_R K) (s := s) (w := w) (p := s93_p1 K (s 0) w) (q := s93_p1_den K s w) tr_id (fun i => tr_id) (by kernel_rfl) (by kernel_rfl) @h
/-- the call, from the text -/
theorem c93 (t0 : Value) {K : Value → World → Prop} {w : World} (h : s93_p1 K t0 w) : cl Try.prog 93 #[t0] K w :=
  calls_of_tr (c := (Try.f93.body.getD .skip)) (fn := Try.f93) (q := s93_p1_den K (st0 #[t0]) w) Try.func93 (by kernel_rfl) (by kernel_rfl) (Nat.le_of_ble_eq_true (by kernel_rfl)) (by kernel_rfl) (by kernel_rfl) (s93_p1_ok K (st0 #[t0]) w @h)

/-! ### function 94 : (*e2e.octets.Reader).LE32 -/
def s94_R (K : Value → World → Prop) (s : Nat → Value) (w : World) : Prop := retv Try.prog s Try.f94.results.toList (fun vs => K (pack vs) w) w
def s94_p1 (K : Value → World → Prop) (t0 : Value) (w : World) : Prop :=
  cl Try.prog 98 #[t0, (.int .i64 4)] (fun t5 w =>
  boZ .neq t5 (.slice none 0 0) (fun t7 w =>
  ifb t7
  (cl Try.prog 70 #[t5] (fun t9 w =>
  K t9 w) w)
  (K (.int .u32 0) w)) w) w
def s94_p1_den (K : Value → World → Prop) : (Nat → Value) → World → Prop := denL Try.prog [(cd (Try.f94.body.getD .skip) [0]), (cd (Try.f94.body.getD .skip) [1, 0, 0]), (cd (Try.f94.body.getD .skip) [1, 0, 1, 0]), (cd (Try.f94.body.getD .skip) [1, 0, 1, 1]), (cd (Try.f94.body.getD .skip) [1, 1, 0]), (cd (Try.f94.body.getD .skip) [1, 1, 1])] (fun _ _ => False) (fun i => (fun _ _ => False)) (s94_R K)
theorem s94_p1_ok (K : Value → World → Prop) (s : Nat → Value) (w : World) (h : s94_p1 K (s 0) w) : Tr (s94_p1_den K s w) :=
  tr_simple (P := Try.prog) (codes := [(cd (Try.f94.body.getD .skip) [0]), (cd (Try.f94.body.getD .skip) [1, 0, 0]), (cd (Try.f94.body.getD .skip) [1, 0, 1, 0]), (cd (Try.f94.body.getD .skip) [1, 0, 1, 1]), (cd (Try.f94.body.getD .skip) [1, 1, 0]), (cd (Try.f94.body.getD .skip) [1, 1, 1])]) (N := (fun _ _ => False)) (N' := (fun _ _ => False)) (X := (fun i => (fun _ _ => False))) (X' := (fun i => (fun _ _ => False))) (R := s94_R K) (s := s) (w := w) (p := s94_p1 K (s 0) w) (q := s94_p1_den K s w) tr_id (fun i => tr_id) (by kernel_rfl) (by kernel_rfl) @h
/-- the call, from the text -/
theorem c94 (t0 : Value) {K : Value → World → Prop} {w : World} (h : s94_p1 K t0 w) : cl Try.prog 94 #[t0] K w :=
  calls_of_tr (c := (Try.f94.body.getD .skip)) (fn := Try.f94) (q := s94_p1_den K (st0 #[t0]) w) Try.func94 (by kernel_rfl) (by kernel_rfl) (Nat.le_of_ble_eq_true (by kernel_rfl)) (by kernel_rfl) (by kernel_rfl) (s94_p1_ok K (st0 #[t0]) w @h)

/-! ### function 95 : (*e2e.octets.Reader).BE32 -/
def s95_R (K : Value → World → Prop) (s : Nat → Value) (w : World) : Prop := retv Try.prog s Try.f95.results.toList (fun vs => K (pack vs) w) w
def s95_p1 (K : Value → World → Prop) (t0 : Value) (w : World) : Prop :=
  cl Try.prog 98 #[t0, (.int .i64 4)] (fun t5 w =>
  boZ .neq t5 (.slice none 0 0) (fun t7 w =>
  ifb t7
  (cl Try.prog 68 #[t5] (fun t9 w =>
  K t9 w) w)
  (K (.int .u32 0) w)) w) w
def s95_p1_den (K : Value → World → Prop) : (Nat → Value) → World → Prop := denL Try.prog [(cd (Try.f95.body.getD .skip) [0]), (cd (Try.f95.body.getD .skip) [1, 0, 0]), (cd (Try.f95.body.getD .skip) [1, 0, 1, 0]), (cd (Try.f95.body.getD .skip) [1, 0, 1, 1]), (cd (Try.f95.body.getD .skip) [1, 1, 0]), (cd (Try.f95.body.getD .skip) [1, 1, 1])] (fun _ _ => False) (fun i => (fun _ _ => False)) (s95_R K)
theorem s95_p1_ok (K : Value → World → Prop) (s : Nat → Value) (w : World) (h : s95_p1 K (s 0) w) : Tr (s95_p1_den K s w) :=
  tr_simple (P := Try.prog) (codes := [(cd (Try.f95.body.getD .skip) [0]), (cd (Try.f95.body.getD .skip) [1, 0, 0]), (cd (Try.f95.body.getD .skip) [1, 0, 1, 0]), (cd (Try.f95.body.getD .skip) [1, 0, 1, 1]), (cd (Try.f95.body.getD .skip) [1, 1, 0]), (cd (Try.f95.body.getD .skip) [1, 1, 1])]) (N := (fun _ _ => False)) (N' := (fun _ _ => False)) (X := (fun i => (fun _ _ => False))) (X' := (fun i => (fun _ _ => False))) (R := s95_R K) (s := s) (w := w) (p := s95_p1 K (s 0) w) (q := s95_p1_den K s w) tr_id (fun i => tr_id) (by kernel_rfl) (by kernel_rfl) @h
/-- the call, from the text -/
theorem c95 (t0 : Value) {K : Value → World → Prop} {w : World} (h : s95_p1 K t0 w) : cl Try.prog 95 #[t0] K w :=
  calls_of_tr (c := (Try.f95.body.getD .skip)) (fn := Try.f95) (q := s95_p1_den K (st0 #[t0]) w) Try.func95 (by kernel_rfl) (by kernel_rfl) (Nat.le_of_ble_eq_true (by kernel_rfl)) (by kernel_rfl) (by kernel_rfl) (s95_p1_ok K (st0 #[t0]) w @h)

/-! ### function 96 : (*e2e.octets.Reader).LE64 -/
def s96_R (K : Value → World → Prop) (s : Nat → Value) (w : World) : Prop := retv Try.prog s Try.f96.results.toList (fun vs => K (pack vs) w) w
def s96_p1 (K : Value → World → Prop) (t0 : Value) (w : World) : Prop :=
  cl Try.prog 98 #[t0, (.int .i64 8)] (fun t5 w =>
  boZ .neq t5 (.slice none 0 0) (fun t7 w =>
  ifb t7
  (cl Try.prog 75 #[t5] (fun t9 w =>
  K t9 w) w)
  (K (.int .u64 0) w)) w) w
def s96_p1_den (K : Value → World → Prop) : (Nat → Value) → World → Prop := denL Try.prog [(cd (Try.f96.body.getD .skip) [0]), (cd (Try.f96.body.getD .skip) [1, 0, 0]), (cd (Try.f96.body.getD .skip) [1, 0, 1, 0]), (cd (Try.f96.body.getD .skip) [1, 0, 1, 1]), (cd (Try.f96.body.getD .skip) [1, 1, 0]), (cd (Try.f96.body.getD .skip) [1, 1, 1])] (fun _ _ => False) (fun i => (fun _ _ => False)) (s96_R K)
theorem s96_p1_ok (K : Value → World → Prop) (s : Nat → Value) (w : World) (h : s96_p1 K (s 0) w) : Tr (s96_p1_den K s w) :=
  tr_simple (P := Try.prog) (codes := [(cd (Try.f96.body.getD .skip) [0]), (cd (Try.f96.body.getD .skip) [1, 0, 0]), (cd (Try.f96.body.getD .skip) [1, 0, 1, 0]), (cd (Try.f96.body.getD .skip) [1, 0, 1, 1]), (cd (Try.f96.body.getD .skip) [1, 1, 0]), (cd (Try.f96.body.getD .skip) [1, 1, 1])]) (N := (fun _ _ => False)) (N' := (fun _ _ => False)) (X := (fun i => (fun _ _ => False))) (X' := (fun i => (fun _ _ => False))) (R := s96_R K) (s := s) (w := w) (p := s96_p1 K (s 0) w) (q := s96_p1_den K s w) tr_id (fun i => tr_id) (by kernel_rfl) (by kernel_rfl) @h
/-- the call, from the text -/
theorem c96 (t0 : Value) {K : Value → World → Prop} {w : World} (h : s96_p1 K t0 w) : cl Try.prog 96 #[t0] K w :=
  calls_of_tr (c := (Try.f96.body.getD .skip)) (fn := Try.f96) (q := s96_p1_den K (st0 #[t0]) w) Try.func96 (by kernel_rfl) (by kernel_rfl) (Nat.le_of_ble_eq_true (by kernel_rfl)) (by kernel_rfl) (by kernel_rfl) (s96_p1_ok K (st0 #[t0]) w @h)

/-! ### function 97 : (*e2e.octets.Reader).BE64 -/
def s97_R (K : Value → World → Prop) (s : Nat → Value) (w : World) : Prop := retv Try.prog s Try.f97.results.toList (fun vs => K (pack vs) w) w
def s97_p1 (K : Value → World → Prop) (t0 : Value) (w : World) : Prop :=
  cl Try.prog 98 #[t0, (.int .i64 8)] (fun t5 w =>
  boZ .neq t5 (.slice none 0 0) (fun t7 w =>
  ifb t7
  (cl Try.prog 72 #[t5] (fun t9 w =>
  K t9 w) w)
  (K (.int .u64 0) w)) w) w
def s97_p1_den (K : Value → World → Prop) : (Nat → Value) → World → Prop := denL Try.prog [(cd (Try.f97.body.getD .skip) [0]), (cd (Try.f97.body.getD .skip) [1, 0, 0]), (cd (Try.f97.body.getD .skip) [1, 0, 1, 0]), (cd (Try.f97.body.getD .skip) [1, 0, 1, 1]), (cd (Try.f97.body.getD .skip) [1, 1, 0]), (cd (Try.f97.body.getD .skip) [1, 1, 1])] (fun _ _ => False) (fun i => (fun _ _ => False)) (s97_R K)
theorem s97_p1_ok (K : Value → World → Prop) (s : Nat → Value) (w : World) (h : s97_p1 K (s 0) w) : Tr (s97_p1_den K s w) :=
  tr_simple (P := Try.prog) (codes := [(cd (Try.f97.body.getD .skip) [0]), (cd (Try.f97.body.getD .skip) [1, 0, 0]), (cd (Try.f97.body.getD .skip) [1, 0, 1, 0]), (cd (Try.f97.body.getD .skip) [1, 0, 1, 1]), (cd (Try.f97.body.getD .skip) [1, 1, 0]), (cd (Try.f97.body.getD .skip) [1, 1, 1])]) (N := (fun _ _ => False)) (N' := (fun _ _ => False)) (X := (fun i => (fun _ _ => False))) (X' := (fun i => (fun _ _ => False))) (R := s97_R K) (s := s) (w := w) (p := s97_p1 K (s 0) w) (q := s97_p1_den K s w) tr_id (fun i => tr_id) (by kernel_rfl) (by kernel_rfl) @h
/-- the call, from the text -/
theorem c97 (t0 : Value) {K : Value → World → Prop} {w : World} (h : s97_p1 K t0 w) : cl Try.prog 97 #[t0] K w :=
  calls_of_tr (c := (Try.f97.body.getD .skip)) (fn := Try.f97) (q := s97_p1_den K (st0 #[t0]) w) Try.func97 (by kernel_rfl) (by kernel_rfl) (Nat.le_of_ble_eq_true (by kernel_rfl)) (by kernel_rfl) (by kernel_rfl) (s97_p1_ok K (st0 #[t0]) w @h)

/-! ### function 98 : (*e2e.octets.Reader).next -/
def s98_R (K : Value → World → Prop) (s : Nat → Value) (w : World) : Prop := retv Try.prog s Try.f98.results.toList (fun vs => K (pack vs) w) w
def s98_p1 (K : Value → World → Prop) (t0 t1 t5 : Value) (w : World) : Prop :=
  nck t0 (fun t49 w =>
  fd 1 t49 (fun t50 w =>
  ld1 t50 (fun t51 w =>
  boI .add t51 t1 (fun t53 w =>
  nck t0 (fun t54 w =>
  fd 1 t54 (fun t55 w =>
  st1 t55 t53 (fun w =>
  K t5 w) w) w) w) w) w) w) w
def s98_p1_den (K : Value → World → Prop) : (Nat → Value) → World → Prop := denL Try.prog [(cd (Try.f98.body.getD .skip) [1, 1, 1, 0]), (cd (Try.f98.body.getD .skip) [1, 1, 1, 1, 0]), (cd (Try.f98.body.getD .skip) [1, 1, 1, 1, 1])] (fun _ _ => False) (fun i => (fun _ _ => False)) (s98_R K)
theorem s98_p1_ok (K : Value → World → Prop) (s : Nat → Value) (w : World) (h : s98_p1 K (s 0) (s 1) (s 5) w) : Tr (s98_p1_den K s w) :=
  tr_simple (P := Try.prog) (codes := [(cd (Try.f98.body.getD .skip) [1, 1, 1, 0]), (cd (Try.f98.body.getD .skip) [1, 1, 1, 1, 0]), (cd (Try.f98.body.getD .skip) [1, 1, 1, 1, 1])]) (N := (fun _ _ => False)) (N' := (fun _ _ => False)) (X := (fun i => (fun _ _ => False))) (X' := (fun i => (fun _ _ => False))) (R := s98_R K) (s := s) (w := w) (p := s98_p1 K (s 0) (s 1) (s 5) w) (q := s98_p1_den K s w) tr_id (fun i => tr_id) (by kernel_rfl) (by kernel_rfl) @h
def s98_p2_d (K : Value → World → Prop) (t0 t1 : Value) (w0 w : World) : Prop :=
  nck t0 (fun t28 _ =>
  fd 0 t28 (fun t29 _ =>
  ld1 t29 (fun t30 _ =>
  nck t0 (fun t32 _ =>
  fd 1 t32 (fun t33 _ =>
  ld1 t33 (fun t34 _ =>
  nck t0 (fun t36 _ =>
  fd 1 t36 (fun t37 _ =>
  ld1 t37 (fun t38 _ =>
  boI .add t38 t1 (fun t40 _ =>
  nck t0 (fun t42 _ =>
  fd 1 t42 (fun t43 _ =>
  ld1 t43 (fun t44 _ =>
  boI .add t44 t1 (fun t46 _ =>
  qv (rs Try.prog (Instr.sliceAt 24 t30 (some t34) (some t40) (some t46))) w0 (fun t47 =>
  s98_p1 K t0 t1 t47 w)) w0) w0) w0) w0) w0) w0) w0) w0) w0) w0) w0) w0) w0) w0
def s98_p2 (K : Value → World → Prop) (t0 t1 : Value) (w : World) : Prop := s98_p2_d K t0 t1 (drw w) (drw w)
def s98_p2_den (K : Value → World → Prop) : (Nat → Value) → World → Prop := denL Try.prog [(cd (Try.f98.body.getD .skip) [1, 1, 0])] (s98_p1_den K) (fun i => (fun _ _ => False)) (s98_R K)
theorem s98_p2_ok (K : Value → World → Prop) (s : Nat → Value) (w : World) (h : s98_p2 K (s 0) (s 1) w) : Tr (s98_p2_den K s w) :=
  tr_draw (P := Try.prog) (ops := (ro (cd (Try.f98.body.getD .skip) [1, 1, 0]))) (ms := [0, 1, 3, 7, 0, 16, 48, 112, 0, 256, 768, 1792, 0, 7936, 0, 16384, 49152, 114688, 0, 507904, 1048575, 2097151]) (cs := [0, 1, 2, 3, 4, 5, 6, 7, 8, 9, 10, 11, 12, 13, 14, 15, 16, 17, 18, 19, 20, 21]) (N := (fun s w => s98_p1 K (s 0) (s 1) (s 5) w)) (N' := (s98_p1_den K)) (s := s) (w := w) (p := s98_p2 K (s 0) (s 1) w) (q := s98_p2_den K s w) (by kernel_rfl) (by kernel_rfl) (fun s w h => s98_p1_ok K s w @h) (by kernel_rfl) (by kernel_rfl) @h
def s98_p3 (K : Value → World → Prop) (t0 t1 t23 : Value) (w : World) : Prop :=
  ifb t23
  (nck t0 (fun t25 w =>
  fd 2 t25 (fun t26 w =>
  st1 t26 (.bool true) (fun w =>
  K (.slice none 0 0) w) w) w) w)
  (s98_p2 K t0 t1 w)
def s98_p3_den (K : Value → World → Prop) : (Nat → Value) → World → Prop := denL Try.prog [(cd (Try.f98.body.getD .skip) [1, 0, 1])] (s98_p2_den K) (fun i => (fun _ _ => False)) (s98_R K)
theorem s98_p3_ok (K : Value → World → Prop) (s : Nat → Value) (w : World) (h : s98_p3 K (s 0) (s 1) (s 23) w) : Tr (s98_p3_den K s w) :=
  tr_simple (P := Try.prog) (codes := [(cd (Try.f98.body.getD .skip) [1, 0, 1])]) (N := (fun s w => s98_p2 K (s 0) (s 1) w)) (N' := (s98_p2_den K)) (X := (fun i => (fun _ _ => False))) (X' := (fun i => (fun _ _ => False))) (R := s98_R K) (s := s) (w := w) (p := s98_p3 K (s 0) (s 1) (s 23) w) (q := s98_p3_den K s w) (fun s w h => s98_p2_ok K s w @h) (fun i => tr_id) (by kernel_rfl) (by kernel_rfl) @h
def s98_p4_d (K : Value → World → Prop) (t0 t1 : Value) (w0 w : World) : Prop :=
  nck t0 (fun t7 _ =>
  fd 2 t7 (fun t8 _ =>
  ld1 t8 (fun t9 _ =>
  gd t9 false (fun K w => K t0 w) (fun t11 _ =>
  gd t9 false (nck t11) (fun t12 _ =>
  gd t9 false (fd 0 t12) (fun t13 _ =>
  gd t9 false (ld1 t13) (fun t14 _ =>
  gd t9 false (lnS t14) (fun t15 _ =>
  gd t9 false (fun K w => K t0 w) (fun t16 _ =>
  gd t9 false (nck t16) (fun t17 _ =>
  gd t9 false (fd 1 t17) (fun t18 _ =>
  gd t9 false (ld1 t18) (fun t19 _ =>
  gd t9 false (fun K w => K t1 w) (fun t20 _ =>
  gd t9 false (cl Try.prog 34 #[t15, t19, t20]) (fun t21 w =>
  gd t9 false (un .not t21) (fun t22 w =>
  pk t9 (.bool true) t22 (fun t23 w =>
  s98_p3 K t0 t1 t23 w) w) w) w) w0) w0) w0) w0) w0) w0) w0) w0) w0) w0) w0) w0) w0
def s98_p4 (K : Value → World → Prop) (t0 t1 : Value) (w : World) : Prop := s98_p4_d K t0 t1 (drw w) (drw w)
def s98_p4_den (K : Value → World → Prop) : (Nat → Value) → World → Prop := denL Try.prog [(cd (Try.f98.body.getD .skip) [1, 0, 0])] (s98_p3_den K) (fun i => (fun _ _ => False)) (s98_R K)
theorem s98_p4_ok (K : Value → World → Prop) (s : Nat → Value) (w : World) (h : s98_p4 K (s 0) (s 1) w) : Tr (s98_p4_den K s w) :=
  tr_draw (P := Try.prog) (ops := (ro (cd (Try.f98.body.getD .skip) [1, 0, 0]))) (ms := [0, 1, 3, 7, 15, 31, 63, 127, 255, 511, 31, 1055, 3103, 7199, 31, 32767, 65535, 131071]) (cs := [0, 1, 2, 3, 4, 5, 6, 7, 8, 9, 10, 11, 12, 13, 14]) (N := (fun s w => s98_p3 K (s 0) (s 1) (s 23) w)) (N' := (s98_p3_den K)) (s := s) (w := w) (p := s98_p4 K (s 0) (s 1) w) (q := s98_p4_den K s w) (by kernel_rfl) (by kernel_rfl) (fun s w h => s98_p3_ok K s w @h) (by kernel_rfl) (by kernel_rfl) @h
def s98_p5 (K : Value → World → Prop) (t0 t1 : Value) (w : World) : Prop :=
  s98_p4 K t0 t1 w
def s98_p5_den (K : Value → World → Prop) : (Nat → Value) → World → Prop := denL Try.prog [(cd (Try.f98.body.getD .skip) [0])] (s98_p4_den K) (fun i => (fun _ _ => False)) (s98_R K)
theorem s98_p5_ok (K : Value → World → Prop) (s : Nat → Value) (w : World) (h : s98_p5 K (s 0) (s 1) w) : Tr (s98_p5_den K s w) :=
  tr_simple (P := Try.prog) (codes := [(cd (Try.f98.body.getD .skip) [0])]) (N := (fun s w => s98_p4 K (s 0) (s 1) w)) (N' := (s98_p4_den K)) (X := (fun i => (fun _ _ => False))) (X' := (fun i => (fun _ _ => False))) (R := s98_R K) (s := s) (w := w) (p := s98_p5 K (s 0) (s 1) w) (q := s98_p5_den K s w) (fun s w h => s98_p4_ok K s w @h) (fun i => tr_id) (by kernel_rfl) (by kernel_rfl) @h
/-- the call, from the text -/
theorem c98 (t0 t1 : Value) {K : Value → World → Prop} {w : World} (h : s98_p5 K t0 t1 w) : cl Try.prog 98 #[t0, t1] K w :=
  calls_of_tr (c := (Try.f98.body.getD .skip)) (fn := Try.f98) (q := s98_p5_den K (st0 #[t0, t1]) w) Try.func98 (by kernel_rfl) (by kernel_rfl) (Nat.le_of_ble_eq_true (by kernel_rfl)) (by kernel_rfl) (by kernel_rfl) (s98_p5_ok K (st0 #[t0, t1]) w @h)

/-! ### function 99 : e2e.octetsm.Bits -/
def s99_R (K : Value → World → Prop) (s : Nat → Value) (w : World) : Prop := retv Try.prog s Try.f99.results.toList (fun vs => K (pack vs) w) w
def s99_p1 (K : Value → World → Prop) (t3 : Value) (w : World) : Prop :=
  K t3 w
def s99_p1_den (K : Value → World → Prop) : (Nat → Value) → World → Prop := denL Try.prog [(cd (Try.f99.body.getD .skip) [1, 1, 1, 0]), (cd (Try.f99.body.getD .skip) [1, 1, 1, 1])] (fun _ _ => False) (fun i => (fun _ _ => False)) (s99_R K)
theorem s99_p1_ok (K : Value → World → Prop) (s : Nat → Value) (w : World) (h : s99_p1 K (s 3) w) : Tr (s99_p1_den K s w) :=
  tr_simple (P := Try.prog) (codes := [(cd (Try.f99.body.getD .skip) [1, 1, 1, 0]), (cd (Try.f99.body.getD .skip) [1, 1, 1, 1])]) (N := (fun _ _ => False)) (N' := (fun _ _ => False)) (X := (fun i => (fun _ _ => False))) (X' := (fun i => (fun _ _ => False))) (R := s99_R K) (s := s) (w := w) (p := s99_p1 K (s 3) w) (q := s99_p1_den K s w) tr_id (fun i => tr_id) (by kernel_rfl) (by kernel_rfl) @h
def s99_p2 (K : Value → World → Prop) (B1 : List Value → World → Prop) (t3 t9 t10 t11 : Value) (w : World) : Prop :=
  boI .add t11 (.int .i64 1) (fun t30 w =>
  B1 [t3, t9, t10, t30] w) w
def s99_p2_den (K : Value → World → Prop) (M1 : (Nat → Value) → World → Prop) : (Nat → Value) → World → Prop := denL Try.prog [(cd (Try.f99.body.getD .skip) [1, 1, 0, 1, 0, 0, 1, 1, 1])] M1 (fun i => (bif Nat.beq i 0 then (s99_p1_den K) else (fun _ _ => False))) (s99_R K)
theorem s99_p2_ok (K : Value → World → Prop) (B1 : List Value → World → Prop) (s : Nat → Value) (w : World) (h : s99_p2 K B1 (s 3) (s 9) (s 10) (s 11) w) : Tr (s99_p2_den K (fun s w => B1 [s 3, s 9, s 10, s 11] w) s w) :=
  tr_simple (P := Try.prog) (codes := [(cd (Try.f99.body.getD .skip) [1, 1, 0, 1, 0, 0, 1, 1, 1])]) (N := (fun s w => B1 [s 3, s 9, s 10, s 11] w)) (N' := (fun s w => B1 [s 3, s 9, s 10, s 11] w)) (X := (fun i => (bif Nat.beq i 0 then (fun s w => s99_p1 K (s 3) w) else (fun _ _ => False)))) (X' := (fun i => (bif Nat.beq i 0 then (s99_p1_den K) else (fun _ _ => False)))) (R := s99_R K) (s := s) (w := w) (p := s99_p2 K B1 (s 3) (s 9) (s 10) (s 11) w) (q := s99_p2_den K (fun s w => B1 [s 3, s 9, s 10, s 11] w) s w) tr_id (fun i => (tr_bif (fun s w h => s99_p1_ok K s w @h) tr_id)) (by kernel_rfl) (by kernel_rfl) @h
def s99_p3 (K : Value → World → Prop) (B1 : List Value → World → Prop) (B2 : List Value → World → Prop) (t3 t5 t9 t10 t11 t15 t16 t17 : Value) (w : World) : Prop :=
  boI .lss t17 t16 (fun t18 w =>
  ifb t18
  (ixs 1 t15 t17 (fun t19 w =>
  ld1 t19 (fun t20 w =>
  cvi .i64 t5 (fun t23 w =>
  boI .quo t23 t20 (fun t25 w =>
  boI .rem t25 (.int .i64 2) (fun t26 w =>
  bsq 3 [(.int .i64 0)] 1 [(some (0, 1), t26)] (fun t27 w =>
  apq 3 [(.int .i64 0)] 8 t3 t27 (fun t28 w =>
  boI .add t17 (.int .i64 1) (fun t29 w =>
  B2 [t28, t5, t9, t10, t11, t15, t16, t29] w) w) w) w) w) w) w) w) w)
  (s99_p2 K B1 t3 t9 t10 t11 w)) w
def s99_p3_den (K : Value → World → Prop) (M1 : (Nat → Value) → World → Prop) (M2 : (Nat → Value) → World → Prop) : (Nat → Value) → World → Prop := denL Try.prog [(cd (Try.f99.body.getD .skip) [1, 1, 0, 1, 0, 0, 1, 1, 0, 0, 1, 1, 0, 0, 0]), (cd (Try.f99.body.getD .skip) [1, 1, 0, 1, 0, 0, 1, 1, 0, 0, 1, 1, 0, 0, 1, 0]), (cd (Try.f99.body.getD .skip) [1, 1, 0, 1, 0, 0, 1, 1, 0, 0, 1, 1, 0, 0, 1, 1, 0]), (cd (Try.f99.body.getD .skip) [1, 1, 0, 1, 0, 0, 1, 1, 0, 0, 1, 1, 0, 0, 1, 1, 1])] M2 (fun i => (bif Nat.beq i 2 then (s99_p2_den K M1) else (bif Nat.beq i 1 then (s99_p2_den K M1) else (bif Nat.beq i 0 then (s99_p1_den K) else (fun _ _ => False))))) (s99_R K)
theorem s99_p3_ok (K : Value → World → Prop) (B1 : List Value → World → Prop) (B2 : List Value → World → Prop) (s : Nat → Value) (w : World) (h : s99_p3 K B1 B2 (s 3) (s 5) (s 9) (s 10) (s 11) (s 15) (s 16) (s 17) w) : Tr (s99_p3_den K (fun s w => B1 [s 3, s 9, s 10, s 11] w) (fun s w => B2 [s 3, s 5, s 9, s 10, s 11, s 15, s 16, s 17] w) s w) :=
  tr_simple (P := Try.prog) (codes := [(cd (Try.f99.body.getD .skip) [1, 1, 0, 1, 0, 0, 1, 1, 0, 0, 1, 1, 0, 0, 0]), (cd (Try.f99.body.getD .skip) [1, 1, 0, 1, 0, 0, 1, 1, 0, 0, 1, 1, 0, 0, 1, 0]), (cd (Try.f99.body.getD .skip) [1, 1, 0, 1, 0, 0, 1, 1, 0, 0, 1, 1, 0, 0, 1, 1, 0]), (cd (Try.f99.body.getD .skip) [1, 1, 0, 1, 0, 0, 1, 1, 0, 0, 1, 1, 0, 0, 1, 1, 1])]) (N := (fun s w => B2 [s 3, s 5, s 9, s 10, s 11, s 15, s 16, s 17] w)) (N' := (fun s w => B2 [s 3, s 5, s 9, s 10, s 11, s 15, s 16, s 17] w)) (X := (fun i => (bif Nat.beq i 2 then (fun s w => s99_p2 K B1 (s 3) (s 9) (s 10) (s 11) w) else (bif Nat.beq i 1 then (fun s w => s99_p2 K B1 (s 3) (s 9) (s 10) (s 11) w) else (bif Nat.beq i 0 then (fun s w => s99_p1 K (s 3) w) else (fun _ _ => False)))))) (X' := (fun i => (bif Nat.beq i 2 then (s99_p2_den K (fun s w => B1 [s 3, s 9, s 10, s 11] w)) else (bif Nat.beq i 1 then (s99_p2_den K (fun s w => B1 [s 3, s 9, s 10, s 11] w)) else (bif Nat.beq i 0 then (s99_p1_den K) else (fun _ _ => False)))))) (R := s99_R K) (s := s) (w := w) (p := s99_p3 K B1 B2 (s 3) (s 5) (s 9) (s 10) (s 11) (s 15) (s 16) (s 17) w) (q := s99_p3_den K (fun s w => B1 [s 3, s 9, s 10, s 11] w) (fun s w => B2 [s 3, s 5, s 9, s 10, s 11, s 15, s 16, s 17] w) s w) tr_id (fun i => (tr_bif (fun s w h => s99_p2_ok K B1 s w @h) (tr_bif (fun s w h => s99_p2_ok K B1 s w @h) (tr_bif (fun s w h => s99_p1_ok K s w @h) tr_id)))) (by kernel_rfl) (by kernel_rfl) @h
def s99_p4_F (K : Value → World → Prop) (B1 : List Value → World → Prop) (B2 : List Value → World → Prop) (l : List Value) (w : World) : Prop :=
  match l with
  | [t3, t5, t9, t10, t11, t15, t16, t17] => s99_p3 K B1 B2 t3 t5 t9 t10 t11 t15 t16 t17 w
  | _ => False
theorem s99_p4_Fe {K : Value → World → Prop} {B1 : List Value → World → Prop} {B2 : List Value → World → Prop} {t3 t5 t9 t10 t11 t15 t16 t17 : Value} {w : World} : s99_p4_F K B1 B2 [t3, t5, t9, t10, t11, t15, t16, t17] w = s99_p3 K B1 B2 t3 t5 t9 t10 t11 t15 t16 t17 w := by kernel_rfl
def s99_p4 (K : Value → World → Prop) (B1 : List Value → World → Prop) (t3 t5 t9 t10 t11 t15 t16 t17 : Value) (w : World) : Prop :=
  LoopL (s99_p4_F K B1) [t3, t5, t9, t10, t11, t15, t16, t17] w
def s99_p4_den (K : Value → World → Prop) (M1 : (Nat → Value) → World → Prop) : (Nat → Value) → World → Prop := fun s w => LoopP (fun M2 s w => s99_p3_den K M1 M2 s w) s w
theorem s99_p4_ok (K : Value → World → Prop) (B1 : List Value → World → Prop) (s : Nat → Value) (w : World) (h : s99_p4 K B1 (s 3) (s 5) (s 9) (s 10) (s 11) (s 15) (s 16) (s 17) w) : Tr (s99_p4_den K (fun s w => B1 [s 3, s 9, s 10, s 11] w) s w) :=
  tr_loop (G := fun N' s w => s99_p3_den K (fun s w => B1 [s 3, s 9, s 10, s 11] w) N' s w) (F := s99_p4_F K B1) (sel := fun s => [s 3, s 5, s 9, s 10, s 11, s 15, s 16, s 17]) (s := s) (w := w) (p := s99_p4 K B1 (s 3) (s 5) (s 9) (s 10) (s 11) (s 15) (s 16) (s 17) w) (q := s99_p4_den K (fun s w => B1 [s 3, s 9, s 10, s 11] w) s w) (fun B s w h => s99_p3_ok K B1 B s w @h) (by kernel_rfl) (by kernel_rfl) @h
def s99_p5 (K : Value → World → Prop) (B1 : List Value → World → Prop) (t3 t9 t10 t11 : Value) (w : World) : Prop :=
  ixs 1 t9 t11 (fun t13 w =>
  ld1 t13 (fun t14 w =>
  bsq 3 [(.int .i64 0)] 8 [(some (0, 1), (.int .i64 128)), (some (1, 1), (.int .i64 64)), (some (2, 1), (.int .i64 32)), (some (3, 1), (.int .i64 16)), (some (4, 1), (.int .i64 8)), (some (5, 1), (.int .i64 4)), (some (6, 1), (.int .i64 2)), (some (7, 1), (.int .i64 1))] (fun t15 w =>
  lnS t15 (fun t16 w =>
  s99_p4 K B1 t3 t14 t9 t10 t11 t15 t16 (.int .i64 0) w) w) w) w) w
def s99_p5_den (K : Value → World → Prop) (M1 : (Nat → Value) → World → Prop) : (Nat → Value) → World → Prop := denL Try.prog [(cd (Try.f99.body.getD .skip) [1, 1, 0, 1, 0, 0, 1, 1, 0, 0, 0]), (cd (Try.f99.body.getD .skip) [1, 1, 0, 1, 0, 0, 1, 1, 0, 0, 1, 0])] (s99_p4_den K M1) (fun i => (bif Nat.beq i 1 then (s99_p2_den K M1) else (bif Nat.beq i 0 then (s99_p1_den K) else (fun _ _ => False)))) (s99_R K)
theorem s99_p5_ok (K : Value → World → Prop) (B1 : List Value → World → Prop) (s : Nat → Value) (w : World) (h : s99_p5 K B1 (s 3) (s 9) (s 10) (s 11) w) : Tr (s99_p5_den K (fun s w => B1 [s 3, s 9, s 10, s 11] w) s w) :=
  tr_simple (P := Try.prog) (codes := [(cd (Try.f99.body.getD .skip) [1, 1, 0, 1, 0, 0, 1, 1, 0, 0, 0]), (cd (Try.f99.body.getD .skip) [1, 1, 0, 1, 0, 0, 1, 1, 0, 0, 1, 0])]) (N := (fun s w => s99_p4 K B1 (s 3) (s 5) (s 9) (s 10) (s 11) (s 15) (s 16) (s 17) w)) (N' := (s99_p4_den K (fun s w => B1 [s 3, s 9, s 10, s 11] w))) (X := (fun i => (bif Nat.beq i 1 then (fun s w => s99_p2 K B1 (s 3) (s 9) (s 10) (s 11) w) else (bif Nat.beq i 0 then (fun s w => s99_p1 K (s 3) w) else (fun _ _ => False))))) (X' := (fun i => (bif Nat.beq i 1 then (s99_p2_den K (fun s w => B1 [s 3, s 9, s 10, s 11] w)) else (bif Nat.beq i 0 then (s99_p1_den K) else (fun _ _ => False))))) (R := s99_R K) (s := s) (w := w) (p := s99_p5 K B1 (s 3) (s 9) (s 10) (s 11) w) (q := s99_p5_den K (fun s w => B1 [s 3, s 9, s 10, s 11] w) s w) (fun s w h => s99_p4_ok K B1 s w @h) (fun i => (tr_bif (fun s w h => s99_p2_ok K B1 s w @h) (tr_bif (fun s w h => s99_p1_ok K s w @h) tr_id))) (by kernel_rfl) (by kernel_rfl) @h
def s99_p6 (K : Value → World → Prop) (B1 : List Value → World → Prop) (t3 t9 t10 t11 : Value) (w : World) : Prop :=
  boI .lss t11 t10 (fun t12 w =>
  ifb t12
  (s99_p5 K B1 t3 t9 t10 t11 w)
  (s99_p1 K t3 w)) w
def s99_p6_den (K : Value → World → Prop) (M1 : (Nat → Value) → World → Prop) : (Nat → Value) → World → Prop := denL Try.prog [(cd (Try.f99.body.getD .skip) [1, 1, 0, 1, 0, 0, 0]), (cd (Try.f99.body.getD .skip) [1, 1, 0, 1, 0, 0, 1, 0])] (s99_p5_den K M1) (fun i => (bif Nat.beq i 0 then (s99_p1_den K) else (fun _ _ => False))) (s99_R K)
theorem s99_p6_ok (K : Value → World → Prop) (B1 : List Value → World → Prop) (s : Nat → Value) (w : World) (h : s99_p6 K B1 (s 3) (s 9) (s 10) (s 11) w) : Tr (s99_p6_den K (fun s w => B1 [s 3, s 9, s 10, s 11] w) s w) :=
  tr_simple (P := Try.prog) (codes := [(cd (Try.f99.body.getD .skip) [1, 1, 0, 1, 0, 0, 0]), (cd (Try.f99.body.getD .skip) [1, 1, 0, 1, 0, 0, 1, 0])]) (N := (fun s w => s99_p5 K B1 (s 3) (s 9) (s 10) (s 11) w)) (N' := (s99_p5_den K (fun s w => B1 [s 3, s 9, s 10, s 11] w))) (X := (fun i => (bif Nat.beq i 0 then (fun s w => s99_p1 K (s 3) w) else (fun _ _ => False)))) (X' := (fun i => (bif Nat.beq i 0 then (s99_p1_den K) else (fun _ _ => False)))) (R := s99_R K) (s := s) (w := w) (p := s99_p6 K B1 (s 3) (s 9) (s 10) (s 11) w) (q := s99_p6_den K (fun s w => B1 [s 3, s 9, s 10, s 11] w) s w) (fun s w h => s99_p5_ok K B1 s w @h) (fun i => (tr_bif (fun s w h => s99_p1_ok K s w @h) tr_id)) (by kernel_rfl) (by kernel_rfl) @h
def s99_p7_F (K : Value → World → Prop) (B1 : List Value → World → Prop) (l : List Value) (w : World) : Prop :=
  match l with
  | [t3, t9, t10, t11] => s99_p6 K B1 t3 t9 t10 t11 w
  | _ => False
theorem s99_p7_Fe {K : Value → World → Prop} {B1 : List Value → World → Prop} {t3 t9 t10 t11 : Value} {w : World} : s99_p7_F K B1 [t3, t9, t10, t11] w = s99_p6 K B1 t3 t9 t10 t11 w := by kernel_rfl
def s99_p7 (K : Value → World → Prop) (t3 t9 t10 t11 : Value) (w : World) : Prop :=
  LoopL (s99_p7_F K) [t3, t9, t10, t11] w
def s99_p7_den (K : Value → World → Prop) : (Nat → Value) → World → Prop := fun s w => LoopP (fun M1 s w => s99_p6_den K M1 s w) s w
theorem s99_p7_ok (K : Value → World → Prop) (s : Nat → Value) (w : World) (h : s99_p7 K (s 3) (s 9) (s 10) (s 11) w) : Tr (s99_p7_den K s w) :=
  tr_loop (G := fun N' s w => s99_p6_den K N' s w) (F := s99_p7_F K) (sel := fun s => [s 3, s 9, s 10, s 11]) (s := s) (w := w) (p := s99_p7 K (s 3) (s 9) (s 10) (s 11) w) (q := s99_p7_den K s w) (fun B s w h => s99_p6_ok K B s w @h) (by kernel_rfl) (by kernel_rfl) @h
def s99_p8 (K : Value → World → Prop) (t0 : Value) (w : World) : Prop :=
  bsq 3 [(.int .i64 0)] 0 [] (fun t8 w =>
  lnS t0 (fun t10 w =>
  s99_p7 K t8 t0 t10 (.int .i64 0) w) w) w
def s99_p8_den (K : Value → World → Prop) : (Nat → Value) → World → Prop := denL Try.prog [(cd (Try.f99.body.getD .skip) [0]), (cd (Try.f99.body.getD .skip) [1, 0]), (cd (Try.f99.body.getD .skip) [1, 1, 0, 0])] (s99_p7_den K) (fun i => (fun _ _ => False)) (s99_R K)
theorem s99_p8_ok (K : Value → World → Prop) (s : Nat → Value) (w : World) (h : s99_p8 K (s 0) w) : Tr (s99_p8_den K s w) :=
  tr_simple (P := Try.prog) (codes := [(cd (Try.f99.body.getD .skip) [0]), (cd (Try.f99.body.getD .skip) [1, 0]), (cd (Try.f99.body.getD .skip) [1, 1, 0, 0])]) (N := (fun s w => s99_p7 K (s 3) (s 9) (s 10) (s 11) w)) (N' := (s99_p7_den K)) (X := (fun i => (fun _ _ => False))) (X' := (fun i => (fun _ _ => False))) (R := s99_R K) (s := s) (w := w) (p := s99_p8 K (s 0) w) (q := s99_p8_den K s w) (fun s w h => s99_p7_ok K s w @h) (fun i => tr_id) (by kernel_rfl) (by kernel_rfl) @h
/-- the call, from the text -/
theorem c99 (t0 : Value) {K : Value → World → Prop} {w : World} (h : s99_p8 K t0 w) : cl Try.prog 99 #[t0] K w :=
  calls_of_tr (c := (Try.f99.body.getD .skip)) (fn := Try.f99) (q := s99_p8_den K (st0 #[t0]) w) Try.func99 (by kernel_rfl) (by kernel_rfl) (Nat.le_of_ble_eq_true (by kernel_rfl)) (by kernel_rfl) (by kernel_rfl) (s99_p8_ok K (st0 #[t0]) w @h)

/-! ### function 100 : e2e.octetsm.Left1 -/
def s100_R (K : Value → World → Prop) (s : Nat → Value) (w : World) : Prop := retv Try.prog s Try.f100.results.toList (fun vs => K (pack vs) w) w
def s100_p1 (K : Value → World → Prop) (t0 : Value) (w : World) : Prop :=
  lnS t0 (fun t5 w =>
  boI .eql t5 (.int .i64 0) (fun t6 w =>
  ifb t6
  (K t0 w)
  (bsq 3 [(.int .i64 0)] 0 [] (fun t8 w =>
  sls 1 t0 (some (.int .i64 1)) none (fun t11 w =>
  apq 3 [(.int .i64 0)] 8 t8 t11 (fun t12 w =>
  ixs 1 t0 (.int .i64 0) (fun t15 w =>
  ld1 t15 (fun t16 w =>
  bsq 3 [(.int .i64 0)] 1 [(some (0, 1), t16)] (fun t17 w =>
  apq 3 [(.int .i64 0)] 8 t12 t17 (fun t18 w =>
  K t18 w) w) w) w) w) w) w) w)) w) w
def s100_p1_den (K : Value → World → Prop) : (Nat → Value) → World → Prop := denL Try.prog [(cd (Try.f100.body.getD .skip) [0]), (cd (Try.f100.body.getD .skip) [1, 0, 0]), (cd (Try.f100.body.getD .skip) [1, 0, 1]), (cd (Try.f100.body.getD .skip) [1, 1, 0]), (cd (Try.f100.body.getD .skip) [1, 1, 1, 0]), (cd (Try.f100.body.getD .skip) [1, 1, 1, 1, 0]), (cd (Try.f100.body.getD .skip) [1, 1, 1, 1, 1])] (fun _ _ => False) (fun i => (fun _ _ => False)) (s100_R K)
theorem s100_p1_ok (K : Value → World → Prop) (s : Nat → Value) (w : World) (h : s100_p1 K (s 0) w) : Tr (s100_p1_den K s w) :=
  tr_simple (P := Try.prog) (codes := [(cd (Try.f100.body.getD .skip) [0]), (cd (Try.f100.body.getD .skip) [1, 0, 0]), (cd (Try.f100.body.getD .skip) [1, 0, 1]), (cd (Try.f100.body.getD .skip) [1, 1, 0]), (cd (Try.f100.body.getD .skip) [1, 1, 1, 0]), (cd (Try.f100.body.getD .skip) [1, 1, 1, 1, 0]), (cd (Try.f100.body.getD .skip) [1, 1, 1, 1, 1])]) (N := (fun _ _ => False)) (N' := (fun _ _ => False)) (X := (fun i => (fun _ _ => False))) (X' := (fun i => (fun _ _ => False))) (R := s100_R K) (s := s) (w := w) (p := s100_p1 K (s 0) w) (q := s100_p1_den K s w) tr_id (fun i => tr_id) (by kernel_rfl) (by kernel_rfl) @h
/-- the call, from the text -/
theorem c100 (t0 : Value) {K : Value → World → Prop} {w : World} (h : s100_p1 K t0 w) : cl Try.prog 100 #[t0] K w :=
  calls_of_tr (c := (Try.f100.body.getD .skip)) (fn := Try.f100) (q := s100_p1_den K (st0 #[t0]) w) Try.func100 (by kernel_rfl) (by kernel_rfl) (Nat.le_of_ble_eq_true (by kernel_rfl)) (by kernel_rfl) (by kernel_rfl) (s100_p1_ok K (st0 #[t0]) w @h)

/-! ### function 101 : e2e.octetsm.Octets -/
def s101_R (K : Value → World → Prop) (s : Nat → Value) (w : World) : Prop := retv Try.prog s Try.f101.results.toList (fun vs => K (pack vs) w) w
def s101_p1 (K : Value → World → Prop) (t3 : Value) (w : World) : Prop :=
  K t3 w
def s101_p1_den (K : Value → World → Prop) : (Nat → Value) → World → Prop := denL Try.prog [(cd (Try.f101.body.getD .skip) [1, 1, 1, 0]), (cd (Try.f101.body.getD .skip) [1, 1, 1, 1])] (fun _ _ => False) (fun i => (fun _ _ => False)) (s101_R K)
theorem s101_p1_ok (K : Value → World → Prop) (s : Nat → Value) (w : World) (h : s101_p1 K (s 3) w) : Tr (s101_p1_den K s w) :=
  tr_simple (P := Try.prog) (codes := [(cd (Try.f101.body.getD .skip) [1, 1, 1, 0]), (cd (Try.f101.body.getD .skip) [1, 1, 1, 1])]) (N := (fun _ _ => False)) (N' := (fun _ _ => False)) (X := (fun i => (fun _ _ => False))) (X' := (fun i => (fun _ _ => False))) (R := s101_R K) (s := s) (w := w) (p := s101_p1 K (s 3) w) (q := s101_p1_den K s w) tr_id (fun i => tr_id) (by kernel_rfl) (by kernel_rfl) @h
def s101_p2 (K : Value → World → Prop) (B1 : List Value → World → Prop) (t0 t3 t4 : Value) (w : World) : Prop :=
  boI .add t4 (.int .i64 8) (fun t14 w =>
  B1 [t0, t3, t14] w) w
def s101_p2_den (K : Value → World → Prop) (M1 : (Nat → Value) → World → Prop) : (Nat → Value) → World → Prop := denL Try.prog [(cd (Try.f101.body.getD .skip) [1, 1, 0, 1, 0, 0, 1, 1])] M1 (fun i => (bif Nat.beq i 0 then (s101_p1_den K) else (fun _ _ => False))) (s101_R K)
theorem s101_p2_ok (K : Value → World → Prop) (B1 : List Value → World → Prop) (s : Nat → Value) (w : World) (h : s101_p2 K B1 (s 0) (s 3) (s 4) w) : Tr (s101_p2_den K (fun s w => B1 [s 0, s 3, s 4] w) s w) :=
  tr_simple (P := Try.prog) (codes := [(cd (Try.f101.body.getD .skip) [1, 1, 0, 1, 0, 0, 1, 1])]) (N := (fun s w => B1 [s 0, s 3, s 4] w)) (N' := (fun s w => B1 [s 0, s 3, s 4] w)) (X := (fun i => (bif Nat.beq i 0 then (fun s w => s101_p1 K (s 3) w) else (fun _ _ => False)))) (X' := (fun i => (bif Nat.beq i 0 then (s101_p1_den K) else (fun _ _ => False)))) (R := s101_R K) (s := s) (w := w) (p := s101_p2 K B1 (s 0) (s 3) (s 4) w) (q := s101_p2_den K (fun s w => B1 [s 0, s 3, s 4] w) s w) tr_id (fun i => (tr_bif (fun s w h => s101_p1_ok K s w @h) tr_id)) (by kernel_rfl) (by kernel_rfl) @h
def s101_p3 (K : Value → World → Prop) (B1 : List Value → World → Prop) (t0 t3 t4 t5 : Value) (w : World) : Prop :=
  cvi .u8 t5 (fun t30 w =>
  bsq 5 [(.int .u8 0)] 1 [(some (0, 1), t30)] (fun t31 w =>
  apq 5 [(.int .u8 0)] 1 t3 t31 (fun t32 w =>
  s101_p2 K B1 t0 t32 t4 w) w) w) w
def s101_p3_den (K : Value → World → Prop) (M1 : (Nat → Value) → World → Prop) : (Nat → Value) → World → Prop := denL Try.prog [(cd (Try.f101.body.getD .skip) [1, 1, 0, 1, 0, 0, 1, 0, 0, 1, 1])] (s101_p2_den K M1) (fun i => (bif Nat.beq i 1 then (s101_p2_den K M1) else (bif Nat.beq i 0 then (s101_p1_den K) else (fun _ _ => False)))) (s101_R K)
theorem s101_p3_ok (K : Value → World → Prop) (B1 : List Value → World → Prop) (s : Nat → Value) (w : World) (h : s101_p3 K B1 (s 0) (s 3) (s 4) (s 5) w) : Tr (s101_p3_den K (fun s w => B1 [s 0, s 3, s 4] w) s w) :=
  tr_simple (P := Try.prog) (codes := [(cd (Try.f101.body.getD .skip) [1, 1, 0, 1, 0, 0, 1, 0, 0, 1, 1])]) (N := (fun s w => s101_p2 K B1 (s 0) (s 3) (s 4) w)) (N' := (s101_p2_den K (fun s w => B1 [s 0, s 3, s 4] w))) (X := (fun i => (bif Nat.beq i 1 then (fun s w => s101_p2 K B1 (s 0) (s 3) (s 4) w) else (bif Nat.beq i 0 then (fun s w => s101_p1 K (s 3) w) else (fun _ _ => False))))) (X' := (fun i => (bif Nat.beq i 1 then (s101_p2_den K (fun s w => B1 [s 0, s 3, s 4] w)) else (bif Nat.beq i 0 then (s101_p1_den K) else (fun _ _ => False))))) (R := s101_R K) (s := s) (w := w) (p := s101_p3 K B1 (s 0) (s 3) (s 4) (s 5) w) (q := s101_p3_den K (fun s w => B1 [s 0, s 3, s 4] w) s w) (fun s w h => s101_p2_ok K B1 s w @h) (fun i => (tr_bif (fun s w h => s101_p2_ok K B1 s w @h) (tr_bif (fun s w h => s101_p1_ok K s w @h) tr_id))) (by kernel_rfl) (by kernel_rfl) @h
def s101_p4 (K : Value → World → Prop) (B1 : List Value → World → Prop) (B2 : List Value → World → Prop) (t0 t3 t4 t5 t6 : Value) (w : World) : Prop :=
  boI .lss t6 (.int .i64 8) (fun t16 w =>
  ifb t16
  (boI .mul (.int .i64 2) t5 (fun t20 w =>
  boI .add t4 t6 (fun t24 w =>
  ixs 1 t0 t24 (fun t25 w =>
  ld1 t25 (fun t26 w =>
  boI .add t20 t26 (fun t27 w =>
  boI .add t6 (.int .i64 1) (fun t18 w =>
  B2 [t0, t3, t4, t27, t18] w) w) w) w) w) w) w)
  (s101_p3 K B1 t0 t3 t4 t5 w)) w
def s101_p4_den (K : Value → World → Prop) (M1 : (Nat → Value) → World → Prop) (M2 : (Nat → Value) → World → Prop) : (Nat → Value) → World → Prop := denL Try.prog [(cd (Try.f101.body.getD .skip) [1, 1, 0, 1, 0, 0, 1, 0, 0, 1, 0, 1, 0, 0, 0, 0]), (cd (Try.f101.body.getD .skip) [1, 1, 0, 1, 0, 0, 1, 0, 0, 1, 0, 1, 0, 0, 0, 1]), (cd (Try.f101.body.getD .skip) [1, 1, 0, 1, 0, 0, 1, 0, 0, 1, 0, 1, 0, 0, 1, 0]), (cd (Try.f101.body.getD .skip) [1, 1, 0, 1, 0, 0, 1, 0, 0, 1, 0, 1, 0, 0, 1, 1])] M2 (fun i => (bif Nat.beq i 2 then (s101_p3_den K M1) else (bif Nat.beq i 1 then (s101_p2_den K M1) else (bif Nat.beq i 0 then (s101_p1_den K) else (fun _ _ => False))))) (s101_R K)
theorem s101_p4_ok (K : Value → World → Prop) (B1 : List Value → World → Prop) (B2 : List Value → World → Prop) (s : Nat → Value) (w : World) (h : s101_p4 K B1 B2 (s 0) (s 3) (s 4) (s 5) (s 6) w) : Tr (s101_p4_den K (fun s w => B1 [s 0, s 3, s 4] w) (fun s w => B2 [s 0, s 3, s 4, s 5, s 6] w) s w) :=
  tr_simple (P := Try.prog) (codes := [(cd (Try.f101.body.getD .skip) [1, 1, 0, 1, 0, 0, 1, 0, 0, 1, 0, 1, 0, 0, 0, 0]), (cd (Try.f101.body.getD .skip) [1, 1, 0, 1, 0, 0, 1, 0, 0, 1, 0, 1, 0, 0, 0, 1]), (cd (Try.f101.body.getD .skip) [1, 1, 0, 1, 0, 0, 1, 0, 0, 1, 0, 1, 0, 0, 1, 0]), (cd (Try.f101.body.getD .skip) [1, 1, 0, 1, 0, 0, 1, 0, 0, 1, 0, 1, 0, 0, 1, 1])]) (N := (fun s w => B2 [s 0, s 3, s 4, s 5, s 6] w)) (N' := (fun s w => B2 [s 0, s 3, s 4, s 5, s 6] w)) (X := (fun i => (bif Nat.beq i 2 then (fun s w => s101_p3 K B1 (s 0) (s 3) (s 4) (s 5) w) else (bif Nat.beq i 1 then (fun s w => s101_p2 K B1 (s 0) (s 3) (s 4) w) else (bif Nat.beq i 0 then (fun s w => s101_p1 K (s 3) w) else (fun _ _ => False)))))) (X' := (fun i => (bif Nat.beq i 2 then (s101_p3_den K (fun s w => B1 [s 0, s 3, s 4] w)) else (bif Nat.beq i 1 then (s101_p2_den K (fun s w => B1 [s 0, s 3, s 4] w)) else (bif Nat.beq i 0 then (s101_p1_den K) else (fun _ _ => False)))))) (R := s101_R K) (s := s) (w := w) (p := s101_p4 K B1 B2 (s 0) (s 3) (s 4) (s 5) (s 6) w) (q := s101_p4_den K (fun s w => B1 [s 0, s 3, s 4] w) (fun s w => B2 [s 0, s 3, s 4, s 5, s 6] w) s w) tr_id (fun i => (tr_bif (fun s w h => s101_p3_ok K B1 s w @h) (tr_bif (fun s w h => s101_p2_ok K B1 s w @h) (tr_bif (fun s w h => s101_p1_ok K s w @h) tr_id)))) (by kernel_rfl) (by kernel_rfl) @h
def s101_p5_F (K : Value → World → Prop) (B1 : List Value → World → Prop) (B2 : List Value → World → Prop) (l : List Value) (w : World) : Prop :=
  match l with
  | [t0, t3, t4, t5, t6] => s101_p4 K B1 B2 t0 t3 t4 t5 t6 w
  | _ => False
theorem s101_p5_Fe {K : Value → World → Prop} {B1 : List Value → World → Prop} {B2 : List Value → World → Prop} {t0 t3 t4 t5 t6 : Value} {w : World} : s101_p5_F K B1 B2 [t0, t3, t4, t5, t6] w = s101_p4 K B1 B2 t0 t3 t4 t5 t6 w := by kernel_rfl
def s101_p5 (K : Value → World → Prop) (B1 : List Value → World → Prop) (t0 t3 t4 t5 t6 : Value) (w : World) : Prop :=
  LoopL (s101_p5_F K B1) [t0, t3, t4, t5, t6] w
def s101_p5_den (K : Value → World → Prop) (M1 : (Nat → Value) → World → Prop) : (Nat → Value) → World → Prop := fun s w => LoopP (fun M2 s w => s101_p4_den K M1 M2 s w) s w
theorem s101_p5_ok (K : Value → World → Prop) (B1 : List Value → World → Prop) (s : Nat → Value) (w : World) (h : s101_p5 K B1 (s 0) (s 3) (s 4) (s 5) (s 6) w) : Tr (s101_p5_den K (fun s w => B1 [s 0, s 3, s 4] w) s w) :=
  tr_loop (G := fun N' s w => s101_p4_den K (fun s w => B1 [s 0, s 3, s 4] w) N' s w) (F := s101_p5_F K B1) (sel := fun s => [s 0, s 3, s 4, s 5, s 6]) (s := s) (w := w) (p := s101_p5 K B1 (s 0) (s 3) (s 4) (s 5) (s 6) w) (q := s101_p5_den K (fun s w => B1 [s 0, s 3, s 4] w) s w) (fun B s w h => s101_p4_ok K B1 B s w @h) (by kernel_rfl) (by kernel_rfl) @h
def s101_p6 (K : Value → World → Prop) (B1 : List Value → World → Prop) (t0 t3 t4 : Value) (w : World) : Prop :=
  s101_p5 K B1 t0 t3 t4 (.int .i64 0) (.int .i64 0) w
def s101_p6_den (K : Value → World → Prop) (M1 : (Nat → Value) → World → Prop) : (Nat → Value) → World → Prop := denL Try.prog [(cd (Try.f101.body.getD .skip) [1, 1, 0, 1, 0, 0, 1, 0, 0, 0]), (cd (Try.f101.body.getD .skip) [1, 1, 0, 1, 0, 0, 1, 0, 0, 1, 0, 0])] (s101_p5_den K M1) (fun i => (bif Nat.beq i 1 then (s101_p2_den K M1) else (bif Nat.beq i 0 then (s101_p1_den K) else (fun _ _ => False)))) (s101_R K)
theorem s101_p6_ok (K : Value → World → Prop) (B1 : List Value → World → Prop) (s : Nat → Value) (w : World) (h : s101_p6 K B1 (s 0) (s 3) (s 4) w) : Tr (s101_p6_den K (fun s w => B1 [s 0, s 3, s 4] w) s w) :=
  tr_simple (P := Try.prog) (codes := [(cd (Try.f101.body.getD .skip) [1, 1, 0, 1, 0, 0, 1, 0, 0, 0]), (cd (Try.f101.body.getD .skip) [1, 1, 0, 1, 0, 0, 1, 0, 0, 1, 0, 0])]) (N := (fun s w => s101_p5 K B1 (s 0) (s 3) (s 4) (s 5) (s 6) w)) (N' := (s101_p5_den K (fun s w => B1 [s 0, s 3, s 4] w))) (X := (fun i => (bif Nat.beq i 1 then (fun s w => s101_p2 K B1 (s 0) (s 3) (s 4) w) else (bif Nat.beq i 0 then (fun s w => s101_p1 K (s 3) w) else (fun _ _ => False))))) (X' := (fun i => (bif Nat.beq i 1 then (s101_p2_den K (fun s w => B1 [s 0, s 3, s 4] w)) else (bif Nat.beq i 0 then (s101_p1_den K) else (fun _ _ => False))))) (R := s101_R K) (s := s) (w := w) (p := s101_p6 K B1 (s 0) (s 3) (s 4) w) (q := s101_p6_den K (fun s w => B1 [s 0, s 3, s 4] w) s w) (fun s w h => s101_p5_ok K B1 s w @h) (fun i => (tr_bif (fun s w h => s101_p2_ok K B1 s w @h) (tr_bif (fun s w h => s101_p1_ok K s w @h) tr_id))) (by kernel_rfl) (by kernel_rfl) @h
def s101_p7 (K : Value → World → Prop) (B1 : List Value → World → Prop) (t0 t3 t4 : Value) (w : World) : Prop :=
  boI .add t4 (.int .i64 8) (fun t9 w =>
  lnS t0 (fun t11 w =>
  boI .leq t9 t11 (fun t12 w =>
  ifb t12
  (s101_p6 K B1 t0 t3 t4 w)
  (s101_p1 K t3 w)) w) w) w
def s101_p7_den (K : Value → World → Prop) (M1 : (Nat → Value) → World → Prop) : (Nat → Value) → World → Prop := denL Try.prog [(cd (Try.f101.body.getD .skip) [1, 1, 0, 1, 0, 0, 0, 0]), (cd (Try.f101.body.getD .skip) [1, 1, 0, 1, 0, 0, 0, 1])] (s101_p6_den K M1) (fun i => (bif Nat.beq i 0 then (s101_p1_den K) else (fun _ _ => False))) (s101_R K)
theorem s101_p7_ok (K : Value → World → Prop) (B1 : List Value → World → Prop) (s : Nat → Value) (w : World) (h : s101_p7 K B1 (s 0) (s 3) (s 4) w) : Tr (s101_p7_den K (fun s w => B1 [s 0, s 3, s 4] w) s w) :=
  tr_simple (P := Try.prog) (codes := [(cd (Try.f101.body.getD .skip) [1, 1, 0, 1, 0, 0, 0, 0]), (cd (Try.f101.body.getD .skip) [1, 1, 0, 1, 0, 0, 0, 1])]) (N := (fun s w => s101_p6 K B1 (s 0) (s 3) (s 4) w)) (N' := (s101_p6_den K (fun s w => B1 [s 0, s 3, s 4] w))) (X := (fun i => (bif Nat.beq i 0 then (fun s w => s101_p1 K (s 3) w) else (fun _ _ => False)))) (X' := (fun i => (bif Nat.beq i 0 then (s101_p1_den K) else (fun _ _ => False)))) (R := s101_R K) (s := s) (w := w) (p := s101_p7 K B1 (s 0) (s 3) (s 4) w) (q := s101_p7_den K (fun s w => B1 [s 0, s 3, s 4] w) s w) (fun s w h => s101_p6_ok K B1 s w @h) (fun i => (tr_bif (fun s w h => s101_p1_ok K s w @h) tr_id)) (by kernel_rfl) (by kernel_rfl) @h
def s101_p8_F (K : Value → World → Prop) (B1 : List Value → World → Prop) (l : List Value) (w : World) : Prop :=
  match l with
  | [t0, t3, t4] => s101_p7 K B1 t0 t3 t4 w
  | _ => False
theorem s101_p8_Fe {K : Value → World → Prop} {B1 : List Value → World → Prop} {t0 t3 t4 : Value} {w : World} : s101_p8_F K B1 [t0, t3, t4] w = s101_p7 K B1 t0 t3 t4 w := by kernel_rfl
def s101_p8 (K : Value → World → Prop) (t0 t3 t4 : Value) (w : World) : Prop :=
  LoopL (s101_p8_F K) [t0, t3, t4] w
def s101_p8_den (K : Value → World → Prop) : (Nat → Value) → World → Prop := fun s w => LoopP (fun M1 s w => s101_p7_den K M1 s w) s w
theorem s101_p8_ok (K : Value → World → Prop) (s : Nat → Value) (w : World) (h : s101_p8 K (s 0) (s 3) (s 4) w) : Tr (s101_p8_den K s w) :=
  tr_loop (G := fun N' s w => s101_p7_den K N' s w) (F := s101_p8_F K) (sel := fun s => [s 0, s 3, s 4]) (s := s) (w := w) (p := s101_p8 K (s 0) (s 3) (s 4) w) (q := s101_p8_den K s w) (fun B s w h => s101_p7_ok K B s w @h) (by kernel_rfl) (by kernel_rfl) @h
def s101_p9 (K : Value → World → Prop) (t0 : Value) (w : World) : Prop :=
  bsq 5 [(.int .u8 0)] 0 [] (fun t7 w =>
  s101_p8 K t0 t7 (.int .i64 0) w) w
def s101_p9_den (K : Value → World → Prop) : (Nat → Value) → World → Prop := denL Try.prog [(cd (Try.f101.body.getD .skip) [0]), (cd (Try.f101.body.getD .skip) [1, 0]), (cd (Try.f101.body.getD .skip) [1, 1, 0, 0])] (s101_p8_den K) (fun i => (fun _ _ => False)) (s101_R K)
theorem s101_p9_ok (K : Value → World → Prop) (s : Nat → Value) (w : World) (h : s101_p9 K (s 0) w) : Tr (s101_p9_den K s w) :=
  tr_simple (P := Try.prog) (codes := [(cd (Try.f101.body.getD .skip) [0]), (cd (Try.f101.body.getD .skip) [1, 0]), (cd (Try.f101.body.getD .skip) [1, 1, 0, 0])]) (N := (fun s w => s101_p8 K (s 0) (s 3) (s 4) w)) (N' := (s101_p8_den K)) (X := (fun i => (fun _ _ => False))) (X' := (fun i => (fun _ _ => False))) (R := s101_R K) (s := s) (w := w) (p := s101_p9 K (s 0) w) (q := s101_p9_den K s w) (fun s w h => s101_p8_ok K s w @h) (fun i => tr_id) (by kernel_rfl) (by kernel_rfl) @h
/-- the call, from the text -/
theorem c101 (t0 : Value) {K : Value → World → Prop} {w : World} (h : s101_p9 K t0 w) : cl Try.prog 101 #[t0] K w :=
  calls_of_tr (c := (Try.f101.body.getD .skip)) (fn := Try.f101) (q := s101_p9_den K (st0 #[t0]) w) Try.func101 (by kernel_rfl) (by kernel_rfl) (Nat.le_of_ble_eq_true (by kernel_rfl)) (by kernel_rfl) (by kernel_rfl) (s101_p9_ok K (st0 #[t0]) w @h)

/-! ### function 102 : e2e.octetsm.Right1 -/
def s102_R (K : Value → World → Prop) (s : Nat → Value) (w : World) : Prop := retv Try.prog s Try.f102.results.toList (fun vs => K (pack vs) w) w
def s102_p1 (K : Value → World → Prop) (t0 : Value) (w : World) : Prop :=
  lnS t0 (fun t5 w =>
  boI .eql t5 (.int .i64 0) (fun t6 w =>
  ifb t6
  (K t0 w)
  (lnS t0 (fun t10 w =>
  boI .sub t10 (.int .i64 1) (fun t11 w =>
  ixs 1 t0 t11 (fun t12 w =>
  ld1 t12 (fun t13 w =>
  bsq 3 [(.int .i64 0)] 1 [(some (0, 1), t13)] (fun t14 w =>
  lnS t0 (fun t18 w =>
  boI .sub t18 (.int .i64 1) (fun t19 w =>
  sls 1 t0 none (some t19) (fun t20 w =>
  apq 3 [(.int .i64 0)] 8 t14 t20 (fun t21 w =>
  K t21 w) w) w) w) w) w) w) w) w) w)) w) w
def s102_p1_den (K : Value → World → Prop) : (Nat → Value) → World → Prop := denL Try.prog [(cd (Try.f102.body.getD .skip) [0]), (cd (Try.f102.body.getD .skip) [1, 0, 0]), (cd (Try.f102.body.getD .skip) [1, 0, 1]), (cd (Try.f102.body.getD .skip) [1, 1, 0]), (cd (Try.f102.body.getD .skip) [1, 1, 1, 0]), (cd (Try.f102.body.getD .skip) [1, 1, 1, 1])] (fun _ _ => False) (fun i => (fun _ _ => False)) (s102_R K)
theorem s102_p1_ok (K : Value → World → Prop) (s : Nat → Value) (w : World) (h : s102_p1 K (s 0) w) : Tr (s102_p1_den K s w) :=
  tr_simple (P := Try.prog) (codes := [(cd (Try.f102.body.getD .skip) [0]), (cd (Try.f102.body.getD .skip) [1, 0, 0]), (cd (Try.f102.body.getD .skip) [1, 0, 1]), (cd (Try.f102.body.getD .skip) [1, 1, 0]), (cd (Try.f102.body.getD .skip) [1, 1, 1, 0]), (cd (Try.f102.body.getD .skip) [1, 1, 1, 1])]) (N := (fun _ _ => False)) (N' := (fun _ _ => False)) (X := (fun i => (fun _ _ => False))) (X' := (fun i => (fun _ _ => False))) (R := s102_R K) (s := s) (w := w) (p := s102_p1 K (s 0) w) (q := s102_p1_den K s w) tr_id (fun i => tr_id) (by kernel_rfl) (by kernel_rfl) @h
/-- the call, from the text -/
theorem c102 (t0 : Value) {K : Value → World → Prop} {w : World} (h : s102_p1 K t0 w) : cl Try.prog 102 #[t0] K w :=
  calls_of_tr (c := (Try.f102.body.getD .skip)) (fn := Try.f102) (q := s102_p1_den K (st0 #[t0]) w) Try.func102 (by kernel_rfl) (by kernel_rfl) (Nat.le_of_ble_eq_true (by kernel_rfl)) (by kernel_rfl) (by kernel_rfl) (s102_p1_ok K (st0 #[t0]) w @h)

/-! ### function 103 : e2e.octetsm.plus -/
def s103_R (K : Value → World → Prop) (s : Nat → Value) (w : World) : Prop := retv Try.prog s Try.f103.results.toList (fun vs => K (pack vs) w) w
def s103_p1 (K : Value → World → Prop) (t2 t8 : Value) (w : World) : Prop :=
  K (.tuple #[t8, t2]) w
def s103_p1_den (K : Value → World → Prop) : (Nat → Value) → World → Prop := denL Try.prog [(cd (Try.f103.body.getD .skip) [1, 1, 1, 0]), (cd (Try.f103.body.getD .skip) [1, 1, 1, 1])] (fun _ _ => False) (fun i => (fun _ _ => False)) (s103_R K)
theorem s103_p1_ok (K : Value → World → Prop) (s : Nat → Value) (w : World) (h : s103_p1 K (s 2) (s 8) w) : Tr (s103_p1_den K s w) :=
  tr_simple (P := Try.prog) (codes := [(cd (Try.f103.body.getD .skip) [1, 1, 1, 0]), (cd (Try.f103.body.getD .skip) [1, 1, 1, 1])]) (N := (fun _ _ => False)) (N' := (fun _ _ => False)) (X := (fun i => (fun _ _ => False))) (X' := (fun i => (fun _ _ => False))) (R := s103_R K) (s := s) (w := w) (p := s103_p1 K (s 2) (s 8) w) (q := s103_p1_den K s w) tr_id (fun i => tr_id) (by kernel_rfl) (by kernel_rfl) @h
def s103_p2 (K : Value → World → Prop) (B1 : List Value → World → Prop) (t0 t1 t2 t8 t9 : Value) (w : World) : Prop :=
  boI .sub t9 (.int .i64 1) (fun t20 w =>
  B1 [t0, t1, t2, t8, t20] w) w
def s103_p2_den (K : Value → World → Prop) (M1 : (Nat → Value) → World → Prop) : (Nat → Value) → World → Prop := denL Try.prog [(cd (Try.f103.body.getD .skip) [1, 1, 0, 1, 0, 0, 1, 1])] M1 (fun i => (bif Nat.beq i 0 then (s103_p1_den K) else (fun _ _ => False))) (s103_R K)
theorem s103_p2_ok (K : Value → World → Prop) (B1 : List Value → World → Prop) (s : Nat → Value) (w : World) (h : s103_p2 K B1 (s 0) (s 1) (s 2) (s 8) (s 9) w) : Tr (s103_p2_den K (fun s w => B1 [s 0, s 1, s 2, s 8, s 9] w) s w) :=
  tr_simple (P := Try.prog) (codes := [(cd (Try.f103.body.getD .skip) [1, 1, 0, 1, 0, 0, 1, 1])]) (N := (fun s w => B1 [s 0, s 1, s 2, s 8, s 9] w)) (N' := (fun s w => B1 [s 0, s 1, s 2, s 8, s 9] w)) (X := (fun i => (bif Nat.beq i 0 then (fun s w => s103_p1 K (s 2) (s 8) w) else (fun _ _ => False)))) (X' := (fun i => (bif Nat.beq i 0 then (s103_p1_den K) else (fun _ _ => False)))) (R := s103_R K) (s := s) (w := w) (p := s103_p2 K B1 (s 0) (s 1) (s 2) (s 8) (s 9) w) (q := s103_p2_den K (fun s w => B1 [s 0, s 1, s 2, s 8, s 9] w) s w) tr_id (fun i => (tr_bif (fun s w h => s103_p1_ok K s w @h) tr_id)) (by kernel_rfl) (by kernel_rfl) @h
def s103_p3 (K : Value → World → Prop) (B1 : List Value → World → Prop) (t0 t1 t8 t9 t10 : Value) (w : World) : Prop :=
  boI .rem t10 (.int .i64 2) (fun t35 w =>
  ixs 1 t8 t9 (fun t36 w =>
  st1 t36 t35 (fun w =>
  boI .quo t10 (.int .i64 2) (fun t38 w =>
  s103_p2 K B1 t0 t1 t38 t8 t9 w) w) w) w) w
def s103_p3_den (K : Value → World → Prop) (M1 : (Nat → Value) → World → Prop) : (Nat → Value) → World → Prop := denL Try.prog [(cd (Try.f103.body.getD .skip) [1, 1, 0, 1, 0, 0, 1, 0, 0, 1, 0]), (cd (Try.f103.body.getD .skip) [1, 1, 0, 1, 0, 0, 1, 0, 0, 1, 1])] (s103_p2_den K M1) (fun i => (bif Nat.beq i 1 then (s103_p2_den K M1) else (bif Nat.beq i 0 then (s103_p1_den K) else (fun _ _ => False)))) (s103_R K)
theorem s103_p3_ok (K : Value → World → Prop) (B1 : List Value → World → Prop) (s : Nat → Value) (w : World) (h : s103_p3 K B1 (s 0) (s 1) (s 8) (s 9) (s 10) w) : Tr (s103_p3_den K (fun s w => B1 [s 0, s 1, s 2, s 8, s 9] w) s w) :=
  tr_simple (P := Try.prog) (codes := [(cd (Try.f103.body.getD .skip) [1, 1, 0, 1, 0, 0, 1, 0, 0, 1, 0]), (cd (Try.f103.body.getD .skip) [1, 1, 0, 1, 0, 0, 1, 0, 0, 1, 1])]) (N := (fun s w => s103_p2 K B1 (s 0) (s 1) (s 2) (s 8) (s 9) w)) (N' := (s103_p2_den K (fun s w => B1 [s 0, s 1, s 2, s 8, s 9] w))) (X := (fun i => (bif Nat.beq i 1 then (fun s w => s103_p2 K B1 (s 0) (s 1) (s 2) (s 8) (s 9) w) else (bif Nat.beq i 0 then (fun s w => s103_p1 K (s 2) (s 8) w) else (fun _ _ => False))))) (X' := (fun i => (bif Nat.beq i 1 then (s103_p2_den K (fun s w => B1 [s 0, s 1, s 2, s 8, s 9] w)) else (bif Nat.beq i 0 then (s103_p1_den K) else (fun _ _ => False))))) (R := s103_R K) (s := s) (w := w) (p := s103_p3 K B1 (s 0) (s 1) (s 8) (s 9) (s 10) w) (q := s103_p3_den K (fun s w => B1 [s 0, s 1, s 2, s 8, s 9] w) s w) (fun s w h => s103_p2_ok K B1 s w @h) (fun i => (tr_bif (fun s w h => s103_p2_ok K B1 s w @h) (tr_bif (fun s w h => s103_p1_ok K s w @h) tr_id))) (by kernel_rfl) (by kernel_rfl) @h
def s103_p4_d (K : Value → World → Prop) (B1 : List Value → World → Prop) (t0 t1 t2 t8 t9 : Value) (w0 w : World) : Prop :=
  ixs 1 t0 t9 (fun t23 _ =>
  ld1 t23 (fun t24 _ =>
  ixs 1 t1 t9 (fun t27 _ =>
  ld1 t27 (fun t28 _ =>
  boI .add t24 t28 (fun t29 _ =>
  boI .add t29 t2 (fun t31 _ =>
  s103_p3 K B1 t0 t1 t8 t9 t31 w) w0) w0) w0) w0) w0) w0
def s103_p4 (K : Value → World → Prop) (B1 : List Value → World → Prop) (t0 t1 t2 t8 t9 : Value) (w : World) : Prop := s103_p4_d K B1 t0 t1 t2 t8 t9 (drw w) (drw w)
def s103_p4_den (K : Value → World → Prop) (M1 : (Nat → Value) → World → Prop) : (Nat → Value) → World → Prop := denL Try.prog [(cd (Try.f103.body.getD .skip) [1, 1, 0, 1, 0, 0, 1, 0, 0, 0])] (s103_p3_den K M1) (fun i => (bif Nat.beq i 1 then (s103_p2_den K M1) else (bif Nat.beq i 0 then (s103_p1_den K) else (fun _ _ => False)))) (s103_R K)
theorem s103_p4_ok (K : Value → World → Prop) (B1 : List Value → World → Prop) (s : Nat → Value) (w : World) (h : s103_p4 K B1 (s 0) (s 1) (s 2) (s 8) (s 9) w) : Tr (s103_p4_den K (fun s w => B1 [s 0, s 1, s 2, s 8, s 9] w) s w) :=
  tr_draw (P := Try.prog) (ops := (ro (cd (Try.f103.body.getD .skip) [1, 1, 0, 1, 0, 0, 1, 0, 0, 0]))) (ms := [0, 0, 3, 7, 0, 0, 48, 112, 255, 0, 1023, 2047]) (cs := [0, 1, 2, 3, 4, 5, 6, 7, 8, 9, 10, 11]) (N := (fun s w => s103_p3 K B1 (s 0) (s 1) (s 8) (s 9) (s 10) w)) (N' := (s103_p3_den K (fun s w => B1 [s 0, s 1, s 2, s 8, s 9] w))) (s := s) (w := w) (p := s103_p4 K B1 (s 0) (s 1) (s 2) (s 8) (s 9) w) (q := s103_p4_den K (fun s w => B1 [s 0, s 1, s 2, s 8, s 9] w) s w) (by kernel_rfl) (by kernel_rfl) (fun s w h => s103_p3_ok K B1 s w @h) (by kernel_rfl) (by kernel_rfl) @h
def s103_p5 (K : Value → World → Prop) (B1 : List Value → World → Prop) (t0 t1 t2 t8 t9 : Value) (w : World) : Prop :=
  boI .geq t9 (.int .i64 0) (fun t18 w =>
  ifb t18
  (s103_p4 K B1 t0 t1 t2 t8 t9 w)
  (s103_p1 K t2 t8 w)) w
def s103_p5_den (K : Value → World → Prop) (M1 : (Nat → Value) → World → Prop) : (Nat → Value) → World → Prop := denL Try.prog [(cd (Try.f103.body.getD .skip) [1, 1, 0, 1, 0, 0, 0, 0]), (cd (Try.f103.body.getD .skip) [1, 1, 0, 1, 0, 0, 0, 1])] (s103_p4_den K M1) (fun i => (bif Nat.beq i 0 then (s103_p1_den K) else (fun _ _ => False))) (s103_R K)
theorem s103_p5_ok (K : Value → World → Prop) (B1 : List Value → World → Prop) (s : Nat → Value) (w : World) (h : s103_p5 K B1 (s 0) (s 1) (s 2) (s 8) (s 9) w) : Tr (s103_p5_den K (fun s w => B1 [s 0, s 1, s 2, s 8, s 9] w) s w) :=
  tr_simple (P := Try.prog) (codes := [(cd (Try.f103.body.getD .skip) [1, 1, 0, 1, 0, 0, 0, 0]), (cd (Try.f103.body.getD .skip) [1, 1, 0, 1, 0, 0, 0, 1])]) (N := (fun s w => s103_p4 K B1 (s 0) (s 1) (s 2) (s 8) (s 9) w)) (N' := (s103_p4_den K (fun s w => B1 [s 0, s 1, s 2, s 8, s 9] w))) (X := (fun i => (bif Nat.beq i 0 then (fun s w => s103_p1 K (s 2) (s 8) w) else (fun _ _ => False)))) (X' := (fun i => (bif Nat.beq i 0 then (s103_p1_den K) else (fun _ _ => False)))) (R := s103_R K) (s := s) (w := w) (p := s103_p5 K B1 (s 0) (s 1) (s 2) (s 8) (s 9) w) (q := s103_p5_den K (fun s w => B1 [s 0, s 1, s 2, s 8, s 9] w) s w) (fun s w h => s103_p4_ok K B1 s w @h) (fun i => (tr_bif (fun s w h => s103_p1_ok K s w @h) tr_id)) (by kernel_rfl) (by kernel_rfl) @h
def s103_p6_F (K : Value → World → Prop) (B1 : List Value → World → Prop) (l : List Value) (w : World) : Prop :=
  match l with
  | [t0, t1, t2, t8, t9] => s103_p5 K B1 t0 t1 t2 t8 t9 w
  | _ => False
theorem s103_p6_Fe {K : Value → World → Prop} {B1 : List Value → World → Prop} {t0 t1 t2 t8 t9 : Value} {w : World} : s103_p6_F K B1 [t0, t1, t2, t8, t9] w = s103_p5 K B1 t0 t1 t2 t8 t9 w := by kernel_rfl
def s103_p6 (K : Value → World → Prop) (t0 t1 t2 t8 t9 : Value) (w : World) : Prop :=
  LoopL (s103_p6_F K) [t0, t1, t2, t8, t9] w
def s103_p6_den (K : Value → World → Prop) : (Nat → Value) → World → Prop := fun s w => LoopP (fun M1 s w => s103_p5_den K M1 s w) s w
theorem s103_p6_ok (K : Value → World → Prop) (s : Nat → Value) (w : World) (h : s103_p6 K (s 0) (s 1) (s 2) (s 8) (s 9) w) : Tr (s103_p6_den K s w) :=
  tr_loop (G := fun N' s w => s103_p5_den K N' s w) (F := s103_p6_F K) (sel := fun s => [s 0, s 1, s 2, s 8, s 9]) (s := s) (w := w) (p := s103_p6 K (s 0) (s 1) (s 2) (s 8) (s 9) w) (q := s103_p6_den K s w) (fun B s w h => s103_p5_ok K B s w @h) (by kernel_rfl) (by kernel_rfl) @h
def s103_p7 (K : Value → World → Prop) (t0 t1 t2 : Value) (w : World) : Prop :=
  lnS t0 (fun t12 w =>
  mks 3 [(.int .i64 0)] 8 t12 t12 (fun t13 w =>
  lnS t0 (fun t15 w =>
  boI .sub t15 (.int .i64 1) (fun t16 w =>
  s103_p6 K t0 t1 t2 t13 t16 w) w) w) w) w
def s103_p7_den (K : Value → World → Prop) : (Nat → Value) → World → Prop := denL Try.prog [(cd (Try.f103.body.getD .skip) [0]), (cd (Try.f103.body.getD .skip) [1, 0]), (cd (Try.f103.body.getD .skip) [1, 1, 0, 0])] (s103_p6_den K) (fun i => (fun _ _ => False)) (s103_R K)
theorem s103_p7_ok (K : Value → World → Prop) (s : Nat → Value) (w : World) (h : s103_p7 K (s 0) (s 1) (s 2) w) : Tr (s103_p7_den K s w) :=
  tr_simple (P := Try.prog) (codes := [(cd (Try.f103.body.getD .skip) [0]), (cd (Try.f103.body.getD .skip) [1, 0]), (cd (Try.f103.body.getD .skip) [1, 1, 0, 0])]) (N := (fun s w => s103_p6 K (s 0) (s 1) (s 2) (s 8) (s 9) w)) (N' := (s103_p6_den K)) (X := (fun i => (fun _ _ => False))) (X' := (fun i => (fun _ _ => False))) (R := s103_R K) (s := s) (w := w) (p := s103_p7 K (s 0) (s 1) (s 2) w) (q := s103_p7_den K s w) (fun s w h => s103_p6_ok K s w @h) (fun i => tr_id) (by kernel_rfl) (by kernel_rfl) @h
/-- the call, from the text -/
theorem c103 (t0 t1 t2 : Value) {K : Value → World → Prop} {w : World} (h : s103_p7 K t0 t1 t2 w) : cl Try.prog 103 #[t0, t1, t2] K w :=
  calls_of_tr (c := (Try.f103.body.getD .skip)) (fn := Try.f103) (q := s103_p7_den K (st0 #[t0, t1, t2]) w) Try.func103 (by kernel_rfl) (by kernel_rfl) (Nat.le_of_ble_eq_true (by kernel_rfl)) (by kernel_rfl) (by kernel_rfl) (s103_p7_ok K (st0 #[t0, t1, t2]) w @h)

end Go.Proofs.Qxb6500898a
