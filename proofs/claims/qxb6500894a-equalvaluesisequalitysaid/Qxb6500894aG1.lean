import Derived.Test.Qxb6500894aProg
import Derived.Test.Qxb6500894aShTr
namespace Go.Proofs.Qxb6500894a
open Go.Sh Go.RowKit
set_option linter.unusedVariables false
set_option maxRecDepth 100000

/-! ### function 3 : e2e.recordlaw.EqualValuesIsEquality -/
def s3_R (K : Value → World → Prop) (s : Nat → Value) (w : World) : Prop := retv Try.prog s Try.f3.results.toList (fun vs => K (pack vs) w) w
def s3_p1 (K : Value → World → Prop) (w : World) : Prop :=
  K (.bool true) w
def s3_p1_den (K : Value → World → Prop) : (Nat → Value) → World → Prop := denL Try.prog [(cd (Try.f3.body.getD .skip) [1, 1, 1, 0]), (cd (Try.f3.body.getD .skip) [1, 1, 1, 1])] (fun _ _ => False) (fun i => (fun _ _ => False)) (s3_R K)
theorem s3_p1_ok (K : Value → World → Prop) (s : Nat → Value) (w : World) (h : s3_p1 K w) : Tr (s3_p1_den K s w) :=
  tr_simple (P := Try.prog) (codes := [(cd (Try.f3.body.getD .skip) [1, 1, 1, 0]), (cd (Try.f3.body.getD .skip) [1, 1, 1, 1])]) (N := (fun _ _ => False)) (N' := (fun _ _ => False)) (X := (fun i => (fun _ _ => False))) (X' := (fun i => (fun _ _ => False))) (R := s3_R K) (s := s) (w := w) (p := s3_p1 K w) (q := s3_p1_den K s w) tr_id (fun i => tr_id) (by kernel_rfl) (by kernel_rfl) @h
def s3_p2 (K : Value → World → Prop) (B1 : List Value → World → Prop) (t11 t12 t13 : Value) (w : World) : Prop :=
  boI .add t13 (.int .i64 1) (fun t54 w =>
  B1 [t11, t12, t54] w) w
def s3_p2_den (K : Value → World → Prop) (M1 : (Nat → Value) → World → Prop) : (Nat → Value) → World → Prop := denL Try.prog [(cd (Try.f3.body.getD .skip) [1, 1, 0, 1, 0, 0, 1, 1, 1])] M1 (fun i => (bif Nat.beq i 0 then (s3_p1_den K) else (fun _ _ => False))) (s3_R K)
theorem s3_p2_ok (K : Value → World → Prop) (B1 : List Value → World → Prop) (s : Nat → Value) (w : World) (h : s3_p2 K B1 (s 11) (s 12) (s 13) w) : Tr (s3_p2_den K (fun s w => B1 [s 11, s 12, s 13] w) s w) :=
  tr_simple (P := Try.prog) (codes := [(cd (Try.f3.body.getD .skip) [1, 1, 0, 1, 0, 0, 1, 1, 1])]) (N := (fun s w => B1 [s 11, s 12, s 13] w)) (N' := (fun s w => B1 [s 11, s 12, s 13] w)) (X := (fun i => (bif Nat.beq i 0 then (fun s w => s3_p1 K w) else (fun _ _ => False)))) (X' := (fun i => (bif Nat.beq i 0 then (s3_p1_den K) else (fun _ _ => False)))) (R := s3_R K) (s := s) (w := w) (p := s3_p2 K B1 (s 11) (s 12) (s 13) w) (q := s3_p2_den K (fun s w => B1 [s 11, s 12, s 13] w) s w) tr_id (fun i => (tr_bif (fun s w h => s3_p1_ok K s w @h) tr_id)) (by kernel_rfl) (by kernel_rfl) @h
def s3_p3 (K : Value → World → Prop) (B1 : List Value → World → Prop) (B2 : List Value → World → Prop) (t5 t11 t12 t13 t26 t27 : Value) (w : World) : Prop :=
  boI .add t27 (.int .i64 1) (fun t53 w =>
  B2 [t5, t11, t12, t13, t26, t53] w) w
def s3_p3_den (K : Value → World → Prop) (M1 : (Nat → Value) → World → Prop) (M2 : (Nat → Value) → World → Prop) : (Nat → Value) → World → Prop := denL Try.prog [(cd (Try.f3.body.getD .skip) [1, 1, 0, 1, 0, 0, 1, 1, 0, 0, 1, 1, 1, 1, 0, 0, 1, 1, 1])] M2 (fun i => (bif Nat.beq i 2 then (s3_p2_den K M1) else (bif Nat.beq i 1 then (s3_p2_den K M1) else (bif Nat.beq i 0 then (s3_p1_den K) else (fun _ _ => False))))) (s3_R K)
theorem s3_p3_ok (K : Value → World → Prop) (B1 : List Value → World → Prop) (B2 : List Value → World → Prop) (s : Nat → Value) (w : World) (h : s3_p3 K B1 B2 (s 5) (s 11) (s 12) (s 13) (s 26) (s 27) w) : Tr (s3_p3_den K (fun s w => B1 [s 11, s 12, s 13] w) (fun s w => B2 [s 5, s 11, s 12, s 13, s 26, s 27] w) s w) :=
  tr_simple (P := Try.prog) (codes := [(cd (Try.f3.body.getD .skip) [1, 1, 0, 1, 0, 0, 1, 1, 0, 0, 1, 1, 1, 1, 0, 0, 1, 1, 1])]) (N := (fun s w => B2 [s 5, s 11, s 12, s 13, s 26, s 27] w)) (N' := (fun s w => B2 [s 5, s 11, s 12, s 13, s 26, s 27] w)) (X := (fun i => (bif Nat.beq i 2 then (fun s w => s3_p2 K B1 (s 11) (s 12) (s 13) w) else (bif Nat.beq i 1 then (fun s w => s3_p2 K B1 (s 11) (s 12) (s 13) w) else (bif Nat.beq i 0 then (fun s w => s3_p1 K w) else (fun _ _ => False)))))) (X' := (fun i => (bif Nat.beq i 2 then (s3_p2_den K (fun s w => B1 [s 11, s 12, s 13] w)) else (bif Nat.beq i 1 then (s3_p2_den K (fun s w => B1 [s 11, s 12, s 13] w)) else (bif Nat.beq i 0 then (s3_p1_den K) else (fun _ _ => False)))))) (R := s3_R K) (s := s) (w := w) (p := s3_p3 K B1 B2 (s 5) (s 11) (s 12) (s 13) (s 26) (s 27) w) (q := s3_p3_den K (fun s w => B1 [s 11, s 12, s 13] w) (fun s w => B2 [s 5, s 11, s 12, s 13, s 26, s 27] w) s w) tr_id (fun i => (tr_bif (fun s w h => s3_p2_ok K B1 s w @h) (tr_bif (fun s w h => s3_p2_ok K B1 s w @h) (tr_bif (fun s w h => s3_p1_ok K s w @h) tr_id)))) (by kernel_rfl) (by kernel_rfl) @h
def s3_p4 (K : Value → World → Prop) (B1 : List Value → World → Prop) (B2 : List Value → World → Prop) (B3 : List Value → World → Prop) (t5 t6 t11 t12 t13 t26 t27 t31 t32 : Value) (w : World) : Prop :=
  boI .add t32 (.int .i64 1) (fun t52 w =>
  B3 [t5, t6, t11, t12, t13, t26, t27, t31, t52] w) w
def s3_p4_den (K : Value → World → Prop) (M1 : (Nat → Value) → World → Prop) (M2 : (Nat → Value) → World → Prop) (M3 : (Nat → Value) → World → Prop) : (Nat → Value) → World → Prop := denL Try.prog [(cd (Try.f3.body.getD .skip) [1, 1, 0, 1, 0, 0, 1, 1, 0, 0, 1, 1, 1, 1, 0, 0, 1, 1, 0, 0, 1, 1, 0, 0, 1, 1, 1])] M3 (fun i => (bif Nat.beq i 4 then (s3_p3_den K M1 M2) else (bif Nat.beq i 3 then (s3_p3_den K M1 M2) else (bif Nat.beq i 2 then (s3_p2_den K M1) else (bif Nat.beq i 1 then (s3_p2_den K M1) else (bif Nat.beq i 0 then (s3_p1_den K) else (fun _ _ => False))))))) (s3_R K)
theorem s3_p4_ok (K : Value → World → Prop) (B1 : List Value → World → Prop) (B2 : List Value → World → Prop) (B3 : List Value → World → Prop) (s : Nat → Value) (w : World) (h : s3_p4 K B1 B2 B3 (s 5) (s 6) (s 11) (s 12) (s 13) (s 26) (s 27) (s 31) (s 32) w) : Tr (s3_p4_den K (fun s w => B1 [s 11, s 12, s 13] w) (fun s w => B2 [s 5, s 11, s 12, s 13, s 26, s 27] w) (fun s w => B3 [s 5, s 6, s 11, s 12, s 13, s 26, s 27, s 31, s 32] w) s w) :=
  tr_simple (P := Try.prog) (codes := [(cd (Try.f3.body.getD .skip) [1, 1, 0, 1, 0, 0, 1, 1, 0, 0, 1, 1, 1, 1, 0, 0, 1, 1, 0, 0, 1, 1, 0, 0, 1, 1, 1])]) (N := (fun s w => B3 [s 5, s 6, s 11, s 12, s 13, s 26, s 27, s 31, s 32] w)) (N' := (fun s w => B3 [s 5, s 6, s 11, s 12, s 13, s 26, s 27, s 31, s 32] w)) (X := (fun i => (bif Nat.beq i 4 then (fun s w => s3_p3 K B1 B2 (s 5) (s 11) (s 12) (s 13) (s 26) (s 27) w) else (bif Nat.beq i 3 then (fun s w => s3_p3 K B1 B2 (s 5) (s 11) (s 12) (s 13) (s 26) (s 27) w) else (bif Nat.beq i 2 then (fun s w => s3_p2 K B1 (s 11) (s 12) (s 13) w) else (bif Nat.beq i 1 then (fun s w => s3_p2 K B1 (s 11) (s 12) (s 13) w) else (bif Nat.beq i 0 then (fun s w => s3_p1 K w) else (fun _ _ => False)))))))) (X' := (fun i => (bif Nat.beq i 4 then (s3_p3_den K (fun s w => B1 [s 11, s 12, s 13] w) (fun s w => B2 [s 5, s 11, s 12, s 13, s 26, s 27] w)) else (bif Nat.beq i 3 then (s3_p3_den K (fun s w => B1 [s 11, s 12, s 13] w) (fun s w => B2 [s 5, s 11, s 12, s 13, s 26, s 27] w)) else (bif Nat.beq i 2 then (s3_p2_den K (fun s w => B1 [s 11, s 12, s 13] w)) else (bif Nat.beq i 1 then (s3_p2_den K (fun s w => B1 [s 11, s 12, s 13] w)) else (bif Nat.beq i 0 then (s3_p1_den K) else (fun _ _ => False)))))))) (R := s3_R K) (s := s) (w := w) (p := s3_p4 K B1 B2 B3 (s 5) (s 6) (s 11) (s 12) (s 13) (s 26) (s 27) (s 31) (s 32) w) (q := s3_p4_den K (fun s w => B1 [s 11, s 12, s 13] w) (fun s w => B2 [s 5, s 11, s 12, s 13, s 26, s 27] w) (fun s w => B3 [s 5, s 6, s 11, s 12, s 13, s 26, s 27, s 31, s 32] w) s w) tr_id (fun i => (tr_bif (fun s w h => s3_p3_ok K B1 B2 s w @h) (tr_bif (fun s w h => s3_p3_ok K B1 B2 s w @h) (tr_bif (fun s w h => s3_p2_ok K B1 s w @h) (tr_bif (fun s w h => s3_p2_ok K B1 s w @h) (tr_bif (fun s w h => s3_p1_ok K s w @h) tr_id)))))) (by kernel_rfl) (by kernel_rfl) @h
def s3_p5 (K : Value → World → Prop) (B1 : List Value → World → Prop) (B2 : List Value → World → Prop) (B3 : List Value → World → Prop) (t5 t6 t11 t12 t13 t26 t27 t31 t32 t51 : Value) (w : World) : Prop :=
  ifb t51
  (K (.bool false) w)
  (s3_p4 K B1 B2 B3 t5 t6 t11 t12 t13 t26 t27 t31 t32 w)
def s3_p5_den (K : Value → World → Prop) (M1 : (Nat → Value) → World → Prop) (M2 : (Nat → Value) → World → Prop) (M3 : (Nat → Value) → World → Prop) : (Nat → Value) → World → Prop := denL Try.prog [(cd (Try.f3.body.getD .skip) [1, 1, 0, 1, 0, 0, 1, 1, 0, 0, 1, 1, 1, 1, 0, 0, 1, 1, 0, 0, 1, 1, 0, 0, 1, 1, 0, 0, 1, 1])] (s3_p4_den K M1 M2 M3) (fun i => (bif Nat.beq i 5 then (s3_p4_den K M1 M2 M3) else (bif Nat.beq i 4 then (s3_p3_den K M1 M2) else (bif Nat.beq i 3 then (s3_p3_den K M1 M2) else (bif Nat.beq i 2 then (s3_p2_den K M1) else (bif Nat.beq i 1 then (s3_p2_den K M1) else (bif Nat.beq i 0 then (s3_p1_den K) else (fun _ _ => False)))))))) (s3_R K)
theorem s3_p5_ok (K : Value → World → Prop) (B1 : List Value → World → Prop) (B2 : List Value → World → Prop) (B3 : List Value → World → Prop) (s : Nat → Value) (w : World) (h : s3_p5 K B1 B2 B3 (s 5) (s 6) (s 11) (s 12) (s 13) (s 26) (s 27) (s 31) (s 32) (s 51) w) : Tr (s3_p5_den K (fun s w => B1 [s 11, s 12, s 13] w) (fun s w => B2 [s 5, s 11, s 12, s 13, s 26, s 27] w) (fun s w => B3 [s 5, s 6, s 11, s 12, s 13, s 26, s 27, s 31, s 32] w) s w) :=
  tr_simple (P := Try.prog) (codes := [(cd (Try.f3.body.getD .skip) [1, 1, 0, 1, 0, 0, 1, 1, 0, 0, 1, 1, 1, 1, 0, 0, 1, 1, 0, 0, 1, 1, 0, 0, 1, 1, 0, 0, 1, 1])]) (N := (fun s w => s3_p4 K B1 B2 B3 (s 5) (s 6) (s 11) (s 12) (s 13) (s 26) (s 27) (s 31) (s 32) w)) (N' := (s3_p4_den K (fun s w => B1 [s 11, s 12, s 13] w) (fun s w => B2 [s 5, s 11, s 12, s 13, s 26, s 27] w) (fun s w => B3 [s 5, s 6, s 11, s 12, s 13, s 26, s 27, s 31, s 32] w))) (X := (fun i => (bif Nat.beq i 5 then (fun s w => s3_p4 K B1 B2 B3 (s 5) (s 6) (s 11) (s 12) (s 13) (s 26) (s 27) (s 31) (s 32) w) else (bif Nat.beq i 4 then (fun s w => s3_p3 K B1 B2 (s 5) (s 11) (s 12) (s 13) (s 26) (s 27) w) else (bif Nat.beq i 3 then (fun s w => s3_p3 K B1 B2 (s 5) (s 11) (s 12) (s 13) (s 26) (s 27) w) else (bif Nat.beq i 2 then (fun s w => s3_p2 K B1 (s 11) (s 12) (s 13) w) else (bif Nat.beq i 1 then (fun s w => s3_p2 K B1 (s 11) (s 12) (s 13) w) else (bif Nat.beq i 0 then (fun s w => s3_p1 K w) else (fun _ _ => False))))))))) (X' := (fun i => (bif Nat.beq i 5 then (s3_p4_den K (fun s w => B1 [s 11, s 12, s 13] w) (fun s w => B2 [s 5, s 11, s 12, s 13, s 26, s 27] w) (fun s w => B3 [s 5, s 6, s 11, s 12, s 13, s 26, s 27, s 31, s 32] w)) else (bif Nat.beq i 4 then (s3_p3_den K (fun s w => B1 [s 11, s 12, s 13] w) (fun s w => B2 [s 5, s 11, s 12, s 13, s 26, s 27] w)) else (bif Nat.beq i 3 then (s3_p3_den K (fun s w => B1 [s 11, s 12, s 13] w) (fun s w => B2 [s 5, s 11, s 12, s 13, s 26, s 27] w)) else (bif Nat.beq i 2 then (s3_p2_den K (fun s w => B1 [s 11, s 12, s 13] w)) else (bif Nat.beq i 1 then (s3_p2_den K (fun s w => B1 [s 11, s 12, s 13] w)) else (bif Nat.beq i 0 then (s3_p1_den K) else (fun _ _ => False))))))))) (R := s3_R K) (s := s) (w := w) (p := s3_p5 K B1 B2 B3 (s 5) (s 6) (s 11) (s 12) (s 13) (s 26) (s 27) (s 31) (s 32) (s 51) w) (q := s3_p5_den K (fun s w => B1 [s 11, s 12, s 13] w) (fun s w => B2 [s 5, s 11, s 12, s 13, s 26, s 27] w) (fun s w => B3 [s 5, s 6, s 11, s 12, s 13, s 26, s 27, s 31, s 32] w) s w) (fun s w h => s3_p4_ok K B1 B2 B3 s w @h) (fun i => (tr_bif (fun s w h => s3_p4_ok K B1 B2 B3 s w @h) (tr_bif (fun s w h => s3_p3_ok K B1 B2 s w @h) (tr_bif (fun s w h => s3_p3_ok K B1 B2 s w @h) (tr_bif (fun s w h => s3_p2_ok K B1 s w @h) (tr_bif (fun s w h => s3_p2_ok K B1 s w @h) (tr_bif (fun s w h => s3_p1_ok K s w @h) tr_id))))))) (by kernel_rfl) (by kernel_rfl) @h
def s3_p6_d (K : Value → World → Prop) (B1 : List Value → World → Prop) (B2 : List Value → World → Prop) (B3 : List Value → World → Prop) (t5 t6 t7 t11 t12 t13 t26 t27 t31 t32 : Value) (w0 w : World) : Prop :=
  ixs 8 t5 t6 (fun t37 _ =>
  ixs 8 t5 t7 (fun t40 _ =>
  ixs 8 t5 t6 (fun t44 _ =>
  ldn 8 t44 (fun t45 _ =>
  ixs 8 t5 t7 (fun t48 _ =>
  ldn 8 t48 (fun t49 _ =>
  cl Try.prog 6 #[t37, t40] (fun t41 w =>
  Below w0.heap.size w0 w ∧
  cl Try.prog 7 #[t45, t49] (fun t50 w =>
  boB .neq t41 t50 (fun t51 w =>
  s3_p5 K B1 B2 B3 t5 t6 t11 t12 t13 t26 t27 t31 t32 t51 w) w) w) w) w0) w0) w0) w0) w0) w0
def s3_p6 (K : Value → World → Prop) (B1 : List Value → World → Prop) (B2 : List Value → World → Prop) (B3 : List Value → World → Prop) (t5 t6 t7 t11 t12 t13 t26 t27 t31 t32 : Value) (w : World) : Prop := s3_p6_d K B1 B2 B3 t5 t6 t7 t11 t12 t13 t26 t27 t31 t32 (drw w) (drw w)
def s3_p6_den (K : Value → World → Prop) (M1 : (Nat → Value) → World → Prop) (M2 : (Nat → Value) → World → Prop) (M3 : (Nat → Value) → World → Prop) : (Nat → Value) → World → Prop := denL Try.prog [(cd (Try.f3.body.getD .skip) [1, 1, 0, 1, 0, 0, 1, 1, 0, 0, 1, 1, 1, 1, 0, 0, 1, 1, 0, 0, 1, 1, 0, 0, 1, 1, 0, 0, 1, 0])] (s3_p5_den K M1 M2 M3) (fun i => (bif Nat.beq i 5 then (s3_p4_den K M1 M2 M3) else (bif Nat.beq i 4 then (s3_p3_den K M1 M2) else (bif Nat.beq i 3 then (s3_p3_den K M1 M2) else (bif Nat.beq i 2 then (s3_p2_den K M1) else (bif Nat.beq i 1 then (s3_p2_den K M1) else (bif Nat.beq i 0 then (s3_p1_den K) else (fun _ _ => False)))))))) (s3_R K)
theorem s3_p6_ok (K : Value → World → Prop) (B1 : List Value → World → Prop) (B2 : List Value → World → Prop) (B3 : List Value → World → Prop) (s : Nat → Value) (w : World) (h : s3_p6 K B1 B2 B3 (s 5) (s 6) (s 7) (s 11) (s 12) (s 13) (s 26) (s 27) (s 31) (s 32) w) : Tr (s3_p6_den K (fun s w => B1 [s 11, s 12, s 13] w) (fun s w => B2 [s 5, s 11, s 12, s 13, s 26, s 27] w) (fun s w => B3 [s 5, s 6, s 11, s 12, s 13, s 26, s 27, s 31, s 32] w) s w) :=
  tr_draw (P := Try.prog) (ops := (ro (cd (Try.f3.body.getD .skip) [1, 1, 0, 1, 0, 0, 1, 1, 0, 0, 1, 1, 1, 1, 0, 0, 1, 1, 0, 0, 1, 1, 0, 0, 1, 1, 0, 0, 1, 0]))) (ms := [0, 0, 3, 0, 0, 24, 63, 0, 0, 384, 896, 0, 0, 6144, 14336, 32767, 65535]) (cs := [0, 1, 2, 3, 4, 5, 7, 8, 9, 10, 11, 12, 13, 14]) (N := (fun s w => s3_p5 K B1 B2 B3 (s 5) (s 6) (s 11) (s 12) (s 13) (s 26) (s 27) (s 31) (s 32) (s 51) w)) (N' := (s3_p5_den K (fun s w => B1 [s 11, s 12, s 13] w) (fun s w => B2 [s 5, s 11, s 12, s 13, s 26, s 27] w) (fun s w => B3 [s 5, s 6, s 11, s 12, s 13, s 26, s 27, s 31, s 32] w))) (s := s) (w := w) (p := s3_p6 K B1 B2 B3 (s 5) (s 6) (s 7) (s 11) (s 12) (s 13) (s 26) (s 27) (s 31) (s 32) w) (q := s3_p6_den K (fun s w => B1 [s 11, s 12, s 13] w) (fun s w => B2 [s 5, s 11, s 12, s 13, s 26, s 27] w) (fun s w => B3 [s 5, s 6, s 11, s 12, s 13, s 26, s 27, s 31, s 32] w) s w) (by kernel_rfl) (by kernel_rfl) (fun s w h => s3_p5_ok K B1 B2 B3 s w @h) (by kernel_rfl) (by kernel_rfl) @h
def s3_p7 (K : Value → World → Prop) (B1 : List Value → World → Prop) (B2 : List Value → World → Prop) (B3 : List Value → World → Prop) (t5 t6 t11 t12 t13 t26 t27 t31 t32 : Value) (w : World) : Prop :=
  s3_p6 K B1 B2 B3 t5 t6 t32 t11 t12 t13 t26 t27 t31 t32 w
def s3_p7_den (K : Value → World → Prop) (M1 : (Nat → Value) → World → Prop) (M2 : (Nat → Value) → World → Prop) (M3 : (Nat → Value) → World → Prop) : (Nat → Value) → World → Prop := denL Try.prog [(cd (Try.f3.body.getD .skip) [1, 1, 0, 1, 0, 0, 1, 1, 0, 0, 1, 1, 1, 1, 0, 0, 1, 1, 0, 0, 1, 1, 0, 0, 1, 1, 0, 0, 0])] (s3_p6_den K M1 M2 M3) (fun i => (bif Nat.beq i 5 then (s3_p4_den K M1 M2 M3) else (bif Nat.beq i 4 then (s3_p3_den K M1 M2) else (bif Nat.beq i 3 then (s3_p3_den K M1 M2) else (bif Nat.beq i 2 then (s3_p2_den K M1) else (bif Nat.beq i 1 then (s3_p2_den K M1) else (bif Nat.beq i 0 then (s3_p1_den K) else (fun _ _ => False)))))))) (s3_R K)
theorem s3_p7_ok (K : Value → World → Prop) (B1 : List Value → World → Prop) (B2 : List Value → World → Prop) (B3 : List Value → World → Prop) (s : Nat → Value) (w : World) (h : s3_p7 K B1 B2 B3 (s 5) (s 6) (s 11) (s 12) (s 13) (s 26) (s 27) (s 31) (s 32) w) : Tr (s3_p7_den K (fun s w => B1 [s 11, s 12, s 13] w) (fun s w => B2 [s 5, s 11, s 12, s 13, s 26, s 27] w) (fun s w => B3 [s 5, s 6, s 11, s 12, s 13, s 26, s 27, s 31, s 32] w) s w) :=
  tr_simple (P := Try.prog) (codes := [(cd (Try.f3.body.getD .skip) [1, 1, 0, 1, 0, 0, 1, 1, 0, 0, 1, 1, 1, 1, 0, 0, 1, 1, 0, 0, 1, 1, 0, 0, 1, 1, 0, 0, 0])]) (N := (fun s w => s3_p6 K B1 B2 B3 (s 5) (s 6) (s 7) (s 11) (s 12) (s 13) (s 26) (s 27) (s 31) (s 32) w)) (N' := (s3_p6_den K (fun s w => B1 [s 11, s 12, s 13] w) (fun s w => B2 [s 5, s 11, s 12, s 13, s 26, s 27] w) (fun s w => B3 [s 5, s 6, s 11, s 12, s 13, s 26, s 27, s 31, s 32] w))) (X := (fun i => (bif Nat.beq i 5 then (fun s w => s3_p4 K B1 B2 B3 (s 5) (s 6) (s 11) (s 12) (s 13) (s 26) (s 27) (s 31) (s 32) w) else (bif Nat.beq i 4 then (fun s w => s3_p3 K B1 B2 (s 5) (s 11) (s 12) (s 13) (s 26) (s 27) w) else (bif Nat.beq i 3 then (fun s w => s3_p3 K B1 B2 (s 5) (s 11) (s 12) (s 13) (s 26) (s 27) w) else (bif Nat.beq i 2 then (fun s w => s3_p2 K B1 (s 11) (s 12) (s 13) w) else (bif Nat.beq i 1 then (fun s w => s3_p2 K B1 (s 11) (s 12) (s 13) w) else (bif Nat.beq i 0 then (fun s w => s3_p1 K w) else (fun _ _ => False))))))))) (X' := (fun i => (bif Nat.beq i 5 then (s3_p4_den K (fun s w => B1 [s 11, s 12, s 13] w) (fun s w => B2 [s 5, s 11, s 12, s 13, s 26, s 27] w) (fun s w => B3 [s 5, s 6, s 11, s 12, s 13, s 26, s 27, s 31, s 32] w)) else (bif Nat.beq i 4 then (s3_p3_den K (fun s w => B1 [s 11, s 12, s 13] w) (fun s w => B2 [s 5, s 11, s 12, s 13, s 26, s 27] w)) else (bif Nat.beq i 3 then (s3_p3_den K (fun s w => B1 [s 11, s 12, s 13] w) (fun s w => B2 [s 5, s 11, s 12, s 13, s 26, s 27] w)) else (bif Nat.beq i 2 then (s3_p2_den K (fun s w => B1 [s 11, s 12, s 13] w)) else (bif Nat.beq i 1 then (s3_p2_den K (fun s w => B1 [s 11, s 12, s 13] w)) else (bif Nat.beq i 0 then (s3_p1_den K) else (fun _ _ => False))))))))) (R := s3_R K) (s := s) (w := w) (p := s3_p7 K B1 B2 B3 (s 5) (s 6) (s 11) (s 12) (s 13) (s 26) (s 27) (s 31) (s 32) w) (q := s3_p7_den K (fun s w => B1 [s 11, s 12, s 13] w) (fun s w => B2 [s 5, s 11, s 12, s 13, s 26, s 27] w) (fun s w => B3 [s 5, s 6, s 11, s 12, s 13, s 26, s 27, s 31, s 32] w) s w) (fun s w h => s3_p6_ok K B1 B2 B3 s w @h) (fun i => (tr_bif (fun s w h => s3_p4_ok K B1 B2 B3 s w @h) (tr_bif (fun s w h => s3_p3_ok K B1 B2 s w @h) (tr_bif (fun s w h => s3_p3_ok K B1 B2 s w @h) (tr_bif (fun s w h => s3_p2_ok K B1 s w @h) (tr_bif (fun s w h => s3_p2_ok K B1 s w @h) (tr_bif (fun s w h => s3_p1_ok K s w @h) tr_id))))))) (by kernel_rfl) (by kernel_rfl) @h
def s3_p8 (K : Value → World → Prop) (B1 : List Value → World → Prop) (B2 : List Value → World → Prop) (B3 : List Value → World → Prop) (t5 t6 t11 t12 t13 t26 t27 t31 t32 : Value) (w : World) : Prop :=
  boI .lss t32 t31 (fun t33 w =>
  ifb t33
  (s3_p7 K B1 B2 B3 t5 t6 t11 t12 t13 t26 t27 t31 t32 w)
  (s3_p3 K B1 B2 t5 t11 t12 t13 t26 t27 w)) w
def s3_p8_den (K : Value → World → Prop) (M1 : (Nat → Value) → World → Prop) (M2 : (Nat → Value) → World → Prop) (M3 : (Nat → Value) → World → Prop) : (Nat → Value) → World → Prop := denL Try.prog [(cd (Try.f3.body.getD .skip) [1, 1, 0, 1, 0, 0, 1, 1, 0, 0, 1, 1, 1, 1, 0, 0, 1, 1, 0, 0, 1, 1, 0, 0, 0]), (cd (Try.f3.body.getD .skip) [1, 1, 0, 1, 0, 0, 1, 1, 0, 0, 1, 1, 1, 1, 0, 0, 1, 1, 0, 0, 1, 1, 0, 0, 1, 0])] (s3_p7_den K M1 M2 M3) (fun i => (bif Nat.beq i 4 then (s3_p3_den K M1 M2) else (bif Nat.beq i 3 then (s3_p3_den K M1 M2) else (bif Nat.beq i 2 then (s3_p2_den K M1) else (bif Nat.beq i 1 then (s3_p2_den K M1) else (bif Nat.beq i 0 then (s3_p1_den K) else (fun _ _ => False))))))) (s3_R K)
theorem s3_p8_ok (K : Value → World → Prop) (B1 : List Value → World → Prop) (B2 : List Value → World → Prop) (B3 : List Value → World → Prop) (s : Nat → Value) (w : World) (h : s3_p8 K B1 B2 B3 (s 5) (s 6) (s 11) (s 12) (s 13) (s 26) (s 27) (s 31) (s 32) w) : Tr (s3_p8_den K (fun s w => B1 [s 11, s 12, s 13] w) (fun s w => B2 [s 5, s 11, s 12, s 13, s 26, s 27] w) (fun s w => B3 [s 5, s 6, s 11, s 12, s 13, s 26, s 27, s 31, s 32] w) s w) :=
  tr_simple (P := Try.prog) (codes := [(cd (Try.f3.body.getD .skip) [1, 1, 0, 1, 0, 0, 1, 1, 0, 0, 1, 1, 1, 1, 0, 0, 1, 1, 0, 0, 1, 1, 0, 0, 0]), (cd (Try.f3.body.getD .skip) [1, 1, 0, 1, 0, 0, 1, 1, 0, 0, 1, 1, 1, 1, 0, 0, 1, 1, 0, 0, 1, 1, 0, 0, 1, 0])]) (N := (fun s w => s3_p7 K B1 B2 B3 (s 5) (s 6) (s 11) (s 12) (s 13) (s 26) (s 27) (s 31) (s 32) w)) (N' := (s3_p7_den K (fun s w => B1 [s 11, s 12, s 13] w) (fun s w => B2 [s 5, s 11, s 12, s 13, s 26, s 27] w) (fun s w => B3 [s 5, s 6, s 11, s 12, s 13, s 26, s 27, s 31, s 32] w))) (X := (fun i => (bif Nat.beq i 4 then (fun s w => s3_p3 K B1 B2 (s 5) (s 11) (s 12) (s 13) (s 26) (s 27) w) else (bif Nat.beq i 3 then (fun s w => s3_p3 K B1 B2 (s 5) (s 11) (s 12) (s 13) (s 26) (s 27) w) else (bif Nat.beq i 2 then (fun s w => s3_p2 K B1 (s 11) (s 12) (s 13) w) else (bif Nat.beq i 1 then (fun s w => s3_p2 K B1 (s 11) (s 12) (s 13) w) else (bif Nat.beq i 0 then (fun s w => s3_p1 K w) else (fun _ _ => False)))))))) (X' := (fun i => (bif Nat.beq i 4 then (s3_p3_den K (fun s w => B1 [s 11, s 12, s 13] w) (fun s w => B2 [s 5, s 11, s 12, s 13, s 26, s 27] w)) else (bif Nat.beq i 3 then (s3_p3_den K (fun s w => B1 [s 11, s 12, s 13] w) (fun s w => B2 [s 5, s 11, s 12, s 13, s 26, s 27] w)) else (bif Nat.beq i 2 then (s3_p2_den K (fun s w => B1 [s 11, s 12, s 13] w)) else (bif Nat.beq i 1 then (s3_p2_den K (fun s w => B1 [s 11, s 12, s 13] w)) else (bif Nat.beq i 0 then (s3_p1_den K) else (fun _ _ => False)))))))) (R := s3_R K) (s := s) (w := w) (p := s3_p8 K B1 B2 B3 (s 5) (s 6) (s 11) (s 12) (s 13) (s 26) (s 27) (s 31) (s 32) w) (q := s3_p8_den K (fun s w => B1 [s 11, s 12, s 13] w) (fun s w => B2 [s 5, s 11, s 12, s 13, s 26, s 27] w) (fun s w => B3 [s 5, s 6, s 11, s 12, s 13, s 26, s 27, s 31, s 32] w) s w) (fun s w h => s3_p7_ok K B1 B2 B3 s w @h) (fun i => (tr_bif (fun s w h => s3_p3_ok K B1 B2 s w @h) (tr_bif (fun s w h => s3_p3_ok K B1 B2 s w @h) (tr_bif (fun s w h => s3_p2_ok K B1 s w @h) (tr_bif (fun s w h => s3_p2_ok K B1 s w @h) (tr_bif (fun s w h => s3_p1_ok K s w @h) tr_id)))))) (by kernel_rfl) (by kernel_rfl) @h
def s3_p9_F (K : Value → World → Prop) (B1 : List Value → World → Prop) (B2 : List Value → World → Prop) (B3 : List Value → World → Prop) (l : List Value) (w : World) : Prop :=
  match l with
  | [t5, t6, t11, t12, t13, t26, t27, t31, t32] => s3_p8 K B1 B2 B3 t5 t6 t11 t12 t13 t26 t27 t31 t32 w
  | _ => False
theorem s3_p9_Fe {K : Value → World → Prop} {B1 : List Value → World → Prop} {B2 : List Value → World → Prop} {B3 : List Value → World → Prop} {t5 t6 t11 t12 t13 t26 t27 t31 t32 : Value} {w : World} : s3_p9_F K B1 B2 B3 [t5, t6, t11, t12, t13, t26, t27, t31, t32] w = s3_p8 K B1 B2 B3 t5 t6 t11 t12 t13 t26 t27 t31 t32 w := by kernel_rfl
def s3_p9 (K : Value → World → Prop) (B1 : List Value → World → Prop) (B2 : List Value → World → Prop) (t5 t6 t11 t12 t13 t26 t27 t31 t32 : Value) (w : World) : Prop :=
  LoopL (s3_p9_F K B1 B2) [t5, t6, t11, t12, t13, t26, t27, t31, t32] w
def s3_p9_den (K : Value → World → Prop) (M1 : (Nat → Value) → World → Prop) (M2 : (Nat → Value) → World → Prop) : (Nat → Value) → World → Prop := fun s w => LoopP (fun M3 s w => s3_p8_den K M1 M2 M3 s w) s w
theorem s3_p9_ok (K : Value → World → Prop) (B1 : List Value → World → Prop) (B2 : List Value → World → Prop) (s : Nat → Value) (w : World) (h : s3_p9 K B1 B2 (s 5) (s 6) (s 11) (s 12) (s 13) (s 26) (s 27) (s 31) (s 32) w) : Tr (s3_p9_den K (fun s w => B1 [s 11, s 12, s 13] w) (fun s w => B2 [s 5, s 11, s 12, s 13, s 26, s 27] w) s w) :=
  tr_loop (G := fun N' s w => s3_p8_den K (fun s w => B1 [s 11, s 12, s 13] w) (fun s w => B2 [s 5, s 11, s 12, s 13, s 26, s 27] w) N' s w) (F := s3_p9_F K B1 B2) (sel := fun s => [s 5, s 6, s 11, s 12, s 13, s 26, s 27, s 31, s 32]) (s := s) (w := w) (p := s3_p9 K B1 B2 (s 5) (s 6) (s 11) (s 12) (s 13) (s 26) (s 27) (s 31) (s 32) w) (q := s3_p9_den K (fun s w => B1 [s 11, s 12, s 13] w) (fun s w => B2 [s 5, s 11, s 12, s 13, s 26, s 27] w) s w) (fun B s w h => s3_p8_ok K B1 B2 B s w @h) (by kernel_rfl) (by kernel_rfl) @h
def s3_p10 (K : Value → World → Prop) (B1 : List Value → World → Prop) (B2 : List Value → World → Prop) (t5 t11 t12 t13 t26 t27 : Value) (w : World) : Prop :=
  lnS t5 (fun t31 w =>
  s3_p9 K B1 B2 t5 t27 t11 t12 t13 t26 t27 t31 (.int .i64 0) w) w
def s3_p10_den (K : Value → World → Prop) (M1 : (Nat → Value) → World → Prop) (M2 : (Nat → Value) → World → Prop) : (Nat → Value) → World → Prop := denL Try.prog [(cd (Try.f3.body.getD .skip) [1, 1, 0, 1, 0, 0, 1, 1, 0, 0, 1, 1, 1, 1, 0, 0, 1, 1, 0, 0, 0]), (cd (Try.f3.body.getD .skip) [1, 1, 0, 1, 0, 0, 1, 1, 0, 0, 1, 1, 1, 1, 0, 0, 1, 1, 0, 0, 1, 0])] (s3_p9_den K M1 M2) (fun i => (bif Nat.beq i 3 then (s3_p3_den K M1 M2) else (bif Nat.beq i 2 then (s3_p2_den K M1) else (bif Nat.beq i 1 then (s3_p2_den K M1) else (bif Nat.beq i 0 then (s3_p1_den K) else (fun _ _ => False)))))) (s3_R K)
theorem s3_p10_ok (K : Value → World → Prop) (B1 : List Value → World → Prop) (B2 : List Value → World → Prop) (s : Nat → Value) (w : World) (h : s3_p10 K B1 B2 (s 5) (s 11) (s 12) (s 13) (s 26) (s 27) w) : Tr (s3_p10_den K (fun s w => B1 [s 11, s 12, s 13] w) (fun s w => B2 [s 5, s 11, s 12, s 13, s 26, s 27] w) s w) :=
  tr_simple (P := Try.prog) (codes := [(cd (Try.f3.body.getD .skip) [1, 1, 0, 1, 0, 0, 1, 1, 0, 0, 1, 1, 1, 1, 0, 0, 1, 1, 0, 0, 0]), (cd (Try.f3.body.getD .skip) [1, 1, 0, 1, 0, 0, 1, 1, 0, 0, 1, 1, 1, 1, 0, 0, 1, 1, 0, 0, 1, 0])]) (N := (fun s w => s3_p9 K B1 B2 (s 5) (s 6) (s 11) (s 12) (s 13) (s 26) (s 27) (s 31) (s 32) w)) (N' := (s3_p9_den K (fun s w => B1 [s 11, s 12, s 13] w) (fun s w => B2 [s 5, s 11, s 12, s 13, s 26, s 27] w))) (X := (fun i => (bif Nat.beq i 3 then (fun s w => s3_p3 K B1 B2 (s 5) (s 11) (s 12) (s 13) (s 26) (s 27) w) else (bif Nat.beq i 2 then (fun s w => s3_p2 K B1 (s 11) (s 12) (s 13) w) else (bif Nat.beq i 1 then (fun s w => s3_p2 K B1 (s 11) (s 12) (s 13) w) else (bif Nat.beq i 0 then (fun s w => s3_p1 K w) else (fun _ _ => False))))))) (X' := (fun i => (bif Nat.beq i 3 then (s3_p3_den K (fun s w => B1 [s 11, s 12, s 13] w) (fun s w => B2 [s 5, s 11, s 12, s 13, s 26, s 27] w)) else (bif Nat.beq i 2 then (s3_p2_den K (fun s w => B1 [s 11, s 12, s 13] w)) else (bif Nat.beq i 1 then (s3_p2_den K (fun s w => B1 [s 11, s 12, s 13] w)) else (bif Nat.beq i 0 then (s3_p1_den K) else (fun _ _ => False))))))) (R := s3_R K) (s := s) (w := w) (p := s3_p10 K B1 B2 (s 5) (s 11) (s 12) (s 13) (s 26) (s 27) w) (q := s3_p10_den K (fun s w => B1 [s 11, s 12, s 13] w) (fun s w => B2 [s 5, s 11, s 12, s 13, s 26, s 27] w) s w) (fun s w h => s3_p9_ok K B1 B2 s w @h) (fun i => (tr_bif (fun s w h => s3_p3_ok K B1 B2 s w @h) (tr_bif (fun s w h => s3_p2_ok K B1 s w @h) (tr_bif (fun s w h => s3_p2_ok K B1 s w @h) (tr_bif (fun s w h => s3_p1_ok K s w @h) tr_id))))) (by kernel_rfl) (by kernel_rfl) @h
def s3_p11 (K : Value → World → Prop) (B1 : List Value → World → Prop) (B2 : List Value → World → Prop) (t5 t11 t12 t13 t26 t27 : Value) (w : World) : Prop :=
  boI .lss t27 t26 (fun t28 w =>
  ifb t28
  (s3_p10 K B1 B2 t5 t11 t12 t13 t26 t27 w)
  (s3_p2 K B1 t11 t12 t13 w)) w
def s3_p11_den (K : Value → World → Prop) (M1 : (Nat → Value) → World → Prop) (M2 : (Nat → Value) → World → Prop) : (Nat → Value) → World → Prop := denL Try.prog [(cd (Try.f3.body.getD .skip) [1, 1, 0, 1, 0, 0, 1, 1, 0, 0, 1, 1, 1, 1, 0, 0, 0]), (cd (Try.f3.body.getD .skip) [1, 1, 0, 1, 0, 0, 1, 1, 0, 0, 1, 1, 1, 1, 0, 0, 1, 0])] (s3_p10_den K M1 M2) (fun i => (bif Nat.beq i 2 then (s3_p2_den K M1) else (bif Nat.beq i 1 then (s3_p2_den K M1) else (bif Nat.beq i 0 then (s3_p1_den K) else (fun _ _ => False))))) (s3_R K)
theorem s3_p11_ok (K : Value → World → Prop) (B1 : List Value → World → Prop) (B2 : List Value → World → Prop) (s : Nat → Value) (w : World) (h : s3_p11 K B1 B2 (s 5) (s 11) (s 12) (s 13) (s 26) (s 27) w) : Tr (s3_p11_den K (fun s w => B1 [s 11, s 12, s 13] w) (fun s w => B2 [s 5, s 11, s 12, s 13, s 26, s 27] w) s w) :=
  tr_simple (P := Try.prog) (codes := [(cd (Try.f3.body.getD .skip) [1, 1, 0, 1, 0, 0, 1, 1, 0, 0, 1, 1, 1, 1, 0, 0, 0]), (cd (Try.f3.body.getD .skip) [1, 1, 0, 1, 0, 0, 1, 1, 0, 0, 1, 1, 1, 1, 0, 0, 1, 0])]) (N := (fun s w => s3_p10 K B1 B2 (s 5) (s 11) (s 12) (s 13) (s 26) (s 27) w)) (N' := (s3_p10_den K (fun s w => B1 [s 11, s 12, s 13] w) (fun s w => B2 [s 5, s 11, s 12, s 13, s 26, s 27] w))) (X := (fun i => (bif Nat.beq i 2 then (fun s w => s3_p2 K B1 (s 11) (s 12) (s 13) w) else (bif Nat.beq i 1 then (fun s w => s3_p2 K B1 (s 11) (s 12) (s 13) w) else (bif Nat.beq i 0 then (fun s w => s3_p1 K w) else (fun _ _ => False)))))) (X' := (fun i => (bif Nat.beq i 2 then (s3_p2_den K (fun s w => B1 [s 11, s 12, s 13] w)) else (bif Nat.beq i 1 then (s3_p2_den K (fun s w => B1 [s 11, s 12, s 13] w)) else (bif Nat.beq i 0 then (s3_p1_den K) else (fun _ _ => False)))))) (R := s3_R K) (s := s) (w := w) (p := s3_p11 K B1 B2 (s 5) (s 11) (s 12) (s 13) (s 26) (s 27) w) (q := s3_p11_den K (fun s w => B1 [s 11, s 12, s 13] w) (fun s w => B2 [s 5, s 11, s 12, s 13, s 26, s 27] w) s w) (fun s w h => s3_p10_ok K B1 B2 s w @h) (fun i => (tr_bif (fun s w h => s3_p2_ok K B1 s w @h) (tr_bif (fun s w h => s3_p2_ok K B1 s w @h) (tr_bif (fun s w h => s3_p1_ok K s w @h) tr_id)))) (by kernel_rfl) (by kernel_rfl) @h
def s3_p12_F (K : Value → World → Prop) (B1 : List Value → World → Prop) (B2 : List Value → World → Prop) (l : List Value) (w : World) : Prop :=
  match l with
  | [t5, t11, t12, t13, t26, t27] => s3_p11 K B1 B2 t5 t11 t12 t13 t26 t27 w
  | _ => False
theorem s3_p12_Fe {K : Value → World → Prop} {B1 : List Value → World → Prop} {B2 : List Value → World → Prop} {t5 t11 t12 t13 t26 t27 : Value} {w : World} : s3_p12_F K B1 B2 [t5, t11, t12, t13, t26, t27] w = s3_p11 K B1 B2 t5 t11 t12 t13 t26 t27 w := by kernel_rfl
def s3_p12 (K : Value → World → Prop) (B1 : List Value → World → Prop) (t5 t11 t12 t13 t26 t27 : Value) (w : World) : Prop :=
  LoopL (s3_p12_F K B1) [t5, t11, t12, t13, t26, t27] w
def s3_p12_den (K : Value → World → Prop) (M1 : (Nat → Value) → World → Prop) : (Nat → Value) → World → Prop := fun s w => LoopP (fun M2 s w => s3_p11_den K M1 M2 s w) s w
theorem s3_p12_ok (K : Value → World → Prop) (B1 : List Value → World → Prop) (s : Nat → Value) (w : World) (h : s3_p12 K B1 (s 5) (s 11) (s 12) (s 13) (s 26) (s 27) w) : Tr (s3_p12_den K (fun s w => B1 [s 11, s 12, s 13] w) s w) :=
  tr_loop (G := fun N' s w => s3_p11_den K (fun s w => B1 [s 11, s 12, s 13] w) N' s w) (F := s3_p12_F K B1) (sel := fun s => [s 5, s 11, s 12, s 13, s 26, s 27]) (s := s) (w := w) (p := s3_p12 K B1 (s 5) (s 11) (s 12) (s 13) (s 26) (s 27) w) (q := s3_p12_den K (fun s w => B1 [s 11, s 12, s 13] w) s w) (fun B s w h => s3_p11_ok K B1 B s w @h) (by kernel_rfl) (by kernel_rfl) @h
def s3_p13 (K : Value → World → Prop) (B1 : List Value → World → Prop) (t5 t11 t12 t13 : Value) (w : World) : Prop :=
  lnS t5 (fun t26 w =>
  s3_p12 K B1 t5 t11 t12 t13 t26 (.int .i64 0) w) w
def s3_p13_den (K : Value → World → Prop) (M1 : (Nat → Value) → World → Prop) : (Nat → Value) → World → Prop := denL Try.prog [(cd (Try.f3.body.getD .skip) [1, 1, 0, 1, 0, 0, 1, 1, 0, 0, 1, 1, 1, 0])] (s3_p12_den K M1) (fun i => (bif Nat.beq i 1 then (s3_p2_den K M1) else (bif Nat.beq i 0 then (s3_p1_den K) else (fun _ _ => False)))) (s3_R K)
theorem s3_p13_ok (K : Value → World → Prop) (B1 : List Value → World → Prop) (s : Nat → Value) (w : World) (h : s3_p13 K B1 (s 5) (s 11) (s 12) (s 13) w) : Tr (s3_p13_den K (fun s w => B1 [s 11, s 12, s 13] w) s w) :=
  tr_simple (P := Try.prog) (codes := [(cd (Try.f3.body.getD .skip) [1, 1, 0, 1, 0, 0, 1, 1, 0, 0, 1, 1, 1, 0])]) (N := (fun s w => s3_p12 K B1 (s 5) (s 11) (s 12) (s 13) (s 26) (s 27) w)) (N' := (s3_p12_den K (fun s w => B1 [s 11, s 12, s 13] w))) (X := (fun i => (bif Nat.beq i 1 then (fun s w => s3_p2 K B1 (s 11) (s 12) (s 13) w) else (bif Nat.beq i 0 then (fun s w => s3_p1 K w) else (fun _ _ => False))))) (X' := (fun i => (bif Nat.beq i 1 then (s3_p2_den K (fun s w => B1 [s 11, s 12, s 13] w)) else (bif Nat.beq i 0 then (s3_p1_den K) else (fun _ _ => False))))) (R := s3_R K) (s := s) (w := w) (p := s3_p13 K B1 (s 5) (s 11) (s 12) (s 13) w) (q := s3_p13_den K (fun s w => B1 [s 11, s 12, s 13] w) s w) (fun s w h => s3_p12_ok K B1 s w @h) (fun i => (tr_bif (fun s w h => s3_p2_ok K B1 s w @h) (tr_bif (fun s w h => s3_p1_ok K s w @h) tr_id))) (by kernel_rfl) (by kernel_rfl) @h
def s3_p14 (K : Value → World → Prop) (B1 : List Value → World → Prop) (t11 t12 t13 : Value) (w : World) : Prop :=
  ixs 20 t11 t13 (fun t15 w =>
  ldn 20 t15 (fun t16 w =>
  nw 40 #[(.int .i64 0), (.int .i64 0), (.int .u32 0), (.int .i64 0), (.int .u8 0), (.int .i64 0), (.int .i64 0), (.int .i64 0), (.int .i64 0), (.string ⟨#[]⟩), (.string ⟨#[]⟩), (.slice none 0 0), (.string ⟨#[]⟩), (.string ⟨#[]⟩), (.string ⟨#[]⟩), (.string ⟨#[]⟩), (.string ⟨#[]⟩), (.slice none 0 0), (.int .u8 0), (.slice none 0 0)] (fun t4 w =>
  stn 20 t4 t16 (fun w =>
  fd 4 t4 (fun t17 w =>
  ldn 14 t17 (fun t18 w =>
  cl Try.prog 5 #[t18] (fun t19 w =>
  lnS t19 (fun t21 w =>
  boI .gtr t21 (.int .i64 12) (fun t22 w =>
  ifb t22
  (sls 8 t19 none (some (.int .i64 12)) (fun t24 w =>
  s3_p13 K B1 t24 t11 t12 t13 w) w)
  (s3_p13 K B1 t19 t11 t12 t13 w)) w) w) w) w) w) w) w) w) w
def s3_p14_den (K : Value → World → Prop) (M1 : (Nat → Value) → World → Prop) : (Nat → Value) → World → Prop := denL Try.prog [(cd (Try.f3.body.getD .skip) [1, 1, 0, 1, 0, 0, 1, 1, 0, 0, 0]), (cd (Try.f3.body.getD .skip) [1, 1, 0, 1, 0, 0, 1, 1, 0, 0, 1, 0]), (cd (Try.f3.body.getD .skip) [1, 1, 0, 1, 0, 0, 1, 1, 0, 0, 1, 1, 0, 0]), (cd (Try.f3.body.getD .skip) [1, 1, 0, 1, 0, 0, 1, 1, 0, 0, 1, 1, 0, 1])] (s3_p13_den K M1) (fun i => (bif Nat.beq i 1 then (s3_p2_den K M1) else (bif Nat.beq i 0 then (s3_p1_den K) else (fun _ _ => False)))) (s3_R K)
theorem s3_p14_ok (K : Value → World → Prop) (B1 : List Value → World → Prop) (s : Nat → Value) (w : World) (h : s3_p14 K B1 (s 11) (s 12) (s 13) w) : Tr (s3_p14_den K (fun s w => B1 [s 11, s 12, s 13] w) s w) :=
  tr_simple (P := Try.prog) (codes := [(cd (Try.f3.body.getD .skip) [1, 1, 0, 1, 0, 0, 1, 1, 0, 0, 0]), (cd (Try.f3.body.getD .skip) [1, 1, 0, 1, 0, 0, 1, 1, 0, 0, 1, 0]), (cd (Try.f3.body.getD .skip) [1, 1, 0, 1, 0, 0, 1, 1, 0, 0, 1, 1, 0, 0]), (cd (Try.f3.body.getD .skip) [1, 1, 0, 1, 0, 0, 1, 1, 0, 0, 1, 1, 0, 1])]) (N := (fun s w => s3_p13 K B1 (s 5) (s 11) (s 12) (s 13) w)) (N' := (s3_p13_den K (fun s w => B1 [s 11, s 12, s 13] w))) (X := (fun i => (bif Nat.beq i 1 then (fun s w => s3_p2 K B1 (s 11) (s 12) (s 13) w) else (bif Nat.beq i 0 then (fun s w => s3_p1 K w) else (fun _ _ => False))))) (X' := (fun i => (bif Nat.beq i 1 then (s3_p2_den K (fun s w => B1 [s 11, s 12, s 13] w)) else (bif Nat.beq i 0 then (s3_p1_den K) else (fun _ _ => False))))) (R := s3_R K) (s := s) (w := w) (p := s3_p14 K B1 (s 11) (s 12) (s 13) w) (q := s3_p14_den K (fun s w => B1 [s 11, s 12, s 13] w) s w) (fun s w h => s3_p13_ok K B1 s w @h) (fun i => (tr_bif (fun s w h => s3_p2_ok K B1 s w @h) (tr_bif (fun s w h => s3_p1_ok K s w @h) tr_id))) (by kernel_rfl) (by kernel_rfl) @h
def s3_p15 (K : Value → World → Prop) (B1 : List Value → World → Prop) (t11 t12 t13 : Value) (w : World) : Prop :=
  boI .lss t13 t12 (fun t14 w =>
  ifb t14
  (s3_p14 K B1 t11 t12 t13 w)
  (s3_p1 K w)) w
def s3_p15_den (K : Value → World → Prop) (M1 : (Nat → Value) → World → Prop) : (Nat → Value) → World → Prop := denL Try.prog [(cd (Try.f3.body.getD .skip) [1, 1, 0, 1, 0, 0, 0]), (cd (Try.f3.body.getD .skip) [1, 1, 0, 1, 0, 0, 1, 0])] (s3_p14_den K M1) (fun i => (bif Nat.beq i 0 then (s3_p1_den K) else (fun _ _ => False))) (s3_R K)
theorem s3_p15_ok (K : Value → World → Prop) (B1 : List Value → World → Prop) (s : Nat → Value) (w : World) (h : s3_p15 K B1 (s 11) (s 12) (s 13) w) : Tr (s3_p15_den K (fun s w => B1 [s 11, s 12, s 13] w) s w) :=
  tr_simple (P := Try.prog) (codes := [(cd (Try.f3.body.getD .skip) [1, 1, 0, 1, 0, 0, 0]), (cd (Try.f3.body.getD .skip) [1, 1, 0, 1, 0, 0, 1, 0])]) (N := (fun s w => s3_p14 K B1 (s 11) (s 12) (s 13) w)) (N' := (s3_p14_den K (fun s w => B1 [s 11, s 12, s 13] w))) (X := (fun i => (bif Nat.beq i 0 then (fun s w => s3_p1 K w) else (fun _ _ => False)))) (X' := (fun i => (bif Nat.beq i 0 then (s3_p1_den K) else (fun _ _ => False)))) (R := s3_R K) (s := s) (w := w) (p := s3_p15 K B1 (s 11) (s 12) (s 13) w) (q := s3_p15_den K (fun s w => B1 [s 11, s 12, s 13] w) s w) (fun s w h => s3_p14_ok K B1 s w @h) (fun i => (tr_bif (fun s w h => s3_p1_ok K s w @h) tr_id)) (by kernel_rfl) (by kernel_rfl) @h
def s3_p16_F (K : Value → World → Prop) (B1 : List Value → World → Prop) (l : List Value) (w : World) : Prop :=
  match l with
  | [t11, t12, t13] => s3_p15 K B1 t11 t12 t13 w
  | _ => False
theorem s3_p16_Fe {K : Value → World → Prop} {B1 : List Value → World → Prop} {t11 t12 t13 : Value} {w : World} : s3_p16_F K B1 [t11, t12, t13] w = s3_p15 K B1 t11 t12 t13 w := by kernel_rfl
def s3_p16 (K : Value → World → Prop) (t11 t12 t13 : Value) (w : World) : Prop :=
  LoopL (s3_p16_F K) [t11, t12, t13] w
def s3_p16_den (K : Value → World → Prop) : (Nat → Value) → World → Prop := fun s w => LoopP (fun M1 s w => s3_p15_den K M1 s w) s w
theorem s3_p16_ok (K : Value → World → Prop) (s : Nat → Value) (w : World) (h : s3_p16 K (s 11) (s 12) (s 13) w) : Tr (s3_p16_den K s w) :=
  tr_loop (G := fun N' s w => s3_p15_den K N' s w) (F := s3_p16_F K) (sel := fun s => [s 11, s 12, s 13]) (s := s) (w := w) (p := s3_p16 K (s 11) (s 12) (s 13) w) (q := s3_p16_den K s w) (fun B s w h => s3_p15_ok K B s w @h) (by kernel_rfl) (by kernel_rfl) @h
def s3_p17 (K : Value → World → Prop) (t0 : Value) (w : World) : Prop :=
  cl Try.prog 4 #[t0] (fun t9 w =>
  un .not t9 (fun t10 w =>
  ifb t10
  (K (.bool true) w)
  (lnS t0 (fun t12 w =>
  s3_p16 K t0 t12 (.int .i64 0) w) w)) w) w
def s3_p17_den (K : Value → World → Prop) : (Nat → Value) → World → Prop := denL Try.prog [(cd (Try.f3.body.getD .skip) [0]), (cd (Try.f3.body.getD .skip) [1, 0, 0]), (cd (Try.f3.body.getD .skip) [1, 0, 1]), (cd (Try.f3.body.getD .skip) [1, 1, 0, 0])] (s3_p16_den K) (fun i => (fun _ _ => False)) (s3_R K)
theorem s3_p17_ok (K : Value → World → Prop) (s : Nat → Value) (w : World) (h : s3_p17 K (s 0) w) : Tr (s3_p17_den K s w) :=
  tr_simple (P := Try.prog) (codes := [(cd (Try.f3.body.getD .skip) [0]), (cd (Try.f3.body.getD .skip) [1, 0, 0]), (cd (Try.f3.body.getD .skip) [1, 0, 1]), (cd (Try.f3.body.getD .skip) [1, 1, 0, 0])]) (N := (fun s w => s3_p16 K (s 11) (s 12) (s 13) w)) (N' := (s3_p16_den K)) (X := (fun i => (fun _ _ => False))) (X' := (fun i => (fun _ _ => False))) (R := s3_R K) (s := s) (w := w) (p := s3_p17 K (s 0) w) (q := s3_p17_den K s w) (fun s w h => s3_p16_ok K s w @h) (fun i => tr_id) (by kernel_rfl) (by kernel_rfl) @h
/-- the call, from the text -/
theorem c3 (t0 : Value) {K : Value → World → Prop} {w : World} (h : s3_p17 K t0 w) : cl Try.prog 3 #[t0] K w :=
  calls_of_tr (c := (Try.f3.body.getD .skip)) (fn := Try.f3) (q := s3_p17_den K (st0 #[t0]) w) Try.func3 (by kernel_rfl) (by kernel_rfl) (Nat.le_of_ble_eq_true (by kernel_rfl)) (by kernel_rfl) (by kernel_rfl) (s3_p17_ok K (st0 #[t0]) w @h)

/-! ### function 4 : e2e.recordlaw.zzSmall1 -/
def s4_R (K : Value → World → Prop) (s : Nat → Value) (w : World) : Prop := retv Try.prog s Try.f4.results.toList (fun vs => K (pack vs) w) w
def s4_p1 (K : Value → World → Prop) (w : World) : Prop :=
  K (.bool true) w
def s4_p1_den (K : Value → World → Prop) : (Nat → Value) → World → Prop := denL Try.prog [(cd (Try.f4.body.getD .skip) [1, 1, 1, 1, 0]), (cd (Try.f4.body.getD .skip) [1, 1, 1, 1, 1])] (fun _ _ => False) (fun i => (fun _ _ => False)) (s4_R K)
theorem s4_p1_ok (K : Value → World → Prop) (s : Nat → Value) (w : World) (h : s4_p1 K w) : Tr (s4_p1_den K s w) :=
  tr_simple (P := Try.prog) (codes := [(cd (Try.f4.body.getD .skip) [1, 1, 1, 1, 0]), (cd (Try.f4.body.getD .skip) [1, 1, 1, 1, 1])]) (N := (fun _ _ => False)) (N' := (fun _ _ => False)) (X := (fun i => (fun _ _ => False))) (X' := (fun i => (fun _ _ => False))) (R := s4_R K) (s := s) (w := w) (p := s4_p1 K w) (q := s4_p1_den K s w) tr_id (fun i => tr_id) (by kernel_rfl) (by kernel_rfl) @h
def s4_p2 (K : Value → World → Prop) (B1 : List Value → World → Prop) (t0 t3 t4 : Value) (w : World) : Prop :=
  boI .add t4 (.int .i64 1) (fun t17 w =>
  B1 [t0, t3, t17] w) w
def s4_p2_den (K : Value → World → Prop) (M1 : (Nat → Value) → World → Prop) : (Nat → Value) → World → Prop := denL Try.prog [(cd (Try.f4.body.getD .skip) [1, 1, 1, 0, 1, 0, 0, 1, 1])] M1 (fun i => (bif Nat.beq i 0 then (s4_p1_den K) else (fun _ _ => False))) (s4_R K)
theorem s4_p2_ok (K : Value → World → Prop) (B1 : List Value → World → Prop) (s : Nat → Value) (w : World) (h : s4_p2 K B1 (s 0) (s 3) (s 4) w) : Tr (s4_p2_den K (fun s w => B1 [s 0, s 3, s 4] w) s w) :=
  tr_simple (P := Try.prog) (codes := [(cd (Try.f4.body.getD .skip) [1, 1, 1, 0, 1, 0, 0, 1, 1])]) (N := (fun s w => B1 [s 0, s 3, s 4] w)) (N' := (fun s w => B1 [s 0, s 3, s 4] w)) (X := (fun i => (bif Nat.beq i 0 then (fun s w => s4_p1 K w) else (fun _ _ => False)))) (X' := (fun i => (bif Nat.beq i 0 then (s4_p1_den K) else (fun _ _ => False)))) (R := s4_R K) (s := s) (w := w) (p := s4_p2 K B1 (s 0) (s 3) (s 4) w) (q := s4_p2_den K (fun s w => B1 [s 0, s 3, s 4] w) s w) tr_id (fun i => (tr_bif (fun s w h => s4_p1_ok K s w @h) tr_id)) (by kernel_rfl) (by kernel_rfl) @h
def s4_p3 (K : Value → World → Prop) (B1 : List Value → World → Prop) (t0 t3 t4 : Value) (w : World) : Prop :=
  ixs 20 t0 t4 (fun t243 w =>
  fd 19 t243 (fun t244 w =>
  ld1 t244 (fun t245 w =>
  lnS t245 (fun t246 w =>
  boI .add t3 t246 (fun t247 w =>
  boI .gtr t247 (.int .i64 65536) (fun t249 w =>
  ifb t249
  (K (.bool false) w)
  (s4_p2 K B1 t0 t247 t4 w)) w) w) w) w) w) w
def s4_p3_den (K : Value → World → Prop) (M1 : (Nat → Value) → World → Prop) : (Nat → Value) → World → Prop := denL Try.prog [(cd (Try.f4.body.getD .skip) [1, 1, 1, 0, 1, 0, 0, 1, 0, 0, 1, 1, 1, 1, 1, 1, 1, 1, 1, 1, 1, 1, 1, 1, 1, 1, 1, 1, 1, 1, 0]), (cd (Try.f4.body.getD .skip) [1, 1, 1, 0, 1, 0, 0, 1, 0, 0, 1, 1, 1, 1, 1, 1, 1, 1, 1, 1, 1, 1, 1, 1, 1, 1, 1, 1, 1, 1, 1, 0]), (cd (Try.f4.body.getD .skip) [1, 1, 1, 0, 1, 0, 0, 1, 0, 0, 1, 1, 1, 1, 1, 1, 1, 1, 1, 1, 1, 1, 1, 1, 1, 1, 1, 1, 1, 1, 1, 1])] (s4_p2_den K M1) (fun i => (bif Nat.beq i 1 then (s4_p2_den K M1) else (bif Nat.beq i 0 then (s4_p1_den K) else (fun _ _ => False)))) (s4_R K)
theorem s4_p3_ok (K : Value → World → Prop) (B1 : List Value → World → Prop) (s : Nat → Value) (w : World) (h : s4_p3 K B1 (s 0) (s 3) (s 4) w) : Tr (s4_p3_den K (fun s w => B1 [s 0, s 3, s 4] w) s w) :=
  tr_simple (P := Try.prog) (codes := [(cd (Try.f4.body.getD .skip) [1, 1, 1, 0, 1, 0, 0, 1, 0, 0, 1, 1, 1, 1, 1, 1, 1, 1, 1, 1, 1, 1, 1, 1, 1, 1, 1, 1, 1, 1, 0]), (cd (Try.f4.body.getD .skip) [1, 1, 1, 0, 1, 0, 0, 1, 0, 0, 1, 1, 1, 1, 1, 1, 1, 1, 1, 1, 1, 1, 1, 1, 1, 1, 1, 1, 1, 1, 1, 0]), (cd (Try.f4.body.getD .skip) [1, 1, 1, 0, 1, 0, 0, 1, 0, 0, 1, 1, 1, 1, 1, 1, 1, 1, 1, 1, 1, 1, 1, 1, 1, 1, 1, 1, 1, 1, 1, 1])]) (N := (fun s w => s4_p2 K B1 (s 0) (s 3) (s 4) w)) (N' := (s4_p2_den K (fun s w => B1 [s 0, s 3, s 4] w))) (X := (fun i => (bif Nat.beq i 1 then (fun s w => s4_p2 K B1 (s 0) (s 3) (s 4) w) else (bif Nat.beq i 0 then (fun s w => s4_p1 K w) else (fun _ _ => False))))) (X' := (fun i => (bif Nat.beq i 1 then (s4_p2_den K (fun s w => B1 [s 0, s 3, s 4] w)) else (bif Nat.beq i 0 then (s4_p1_den K) else (fun _ _ => False))))) (R := s4_R K) (s := s) (w := w) (p := s4_p3 K B1 (s 0) (s 3) (s 4) w) (q := s4_p3_den K (fun s w => B1 [s 0, s 3, s 4] w) s w) (fun s w h => s4_p2_ok K B1 s w @h) (fun i => (tr_bif (fun s w h => s4_p2_ok K B1 s w @h) (tr_bif (fun s w h => s4_p1_ok K s w @h) tr_id))) (by kernel_rfl) (by kernel_rfl) @h
def s4_p4 (K : Value → World → Prop) (B1 : List Value → World → Prop) (B2 : List Value → World → Prop) (t0 t3 t4 t6 : Value) (w : World) : Prop :=
  boI .add t6 (.int .i64 1) (fun t158 w =>
  B2 [t0, t3, t4, t158] w) w
def s4_p4_den (K : Value → World → Prop) (M1 : (Nat → Value) → World → Prop) (M2 : (Nat → Value) → World → Prop) : (Nat → Value) → World → Prop := denL Try.prog [(cd (Try.f4.body.getD .skip) [1, 1, 1, 0, 1, 0, 0, 1, 0, 0, 1, 1, 1, 1, 1, 1, 1, 1, 1, 1, 1, 1, 1, 1, 1, 1, 1, 1, 1, 0, 1, 0, 0, 1, 1])] M2 (fun i => (bif Nat.beq i 4 then (s4_p3_den K M1) else (bif Nat.beq i 1 then (s4_p2_den K M1) else (bif Nat.beq i 0 then (s4_p1_den K) else (fun _ _ => False))))) (s4_R K)
theorem s4_p4_ok (K : Value → World → Prop) (B1 : List Value → World → Prop) (B2 : List Value → World → Prop) (s : Nat → Value) (w : World) (h : s4_p4 K B1 B2 (s 0) (s 3) (s 4) (s 6) w) : Tr (s4_p4_den K (fun s w => B1 [s 0, s 3, s 4] w) (fun s w => B2 [s 0, s 3, s 4, s 6] w) s w) :=
  tr_simple (P := Try.prog) (codes := [(cd (Try.f4.body.getD .skip) [1, 1, 1, 0, 1, 0, 0, 1, 0, 0, 1, 1, 1, 1, 1, 1, 1, 1, 1, 1, 1, 1, 1, 1, 1, 1, 1, 1, 1, 0, 1, 0, 0, 1, 1])]) (N := (fun s w => B2 [s 0, s 3, s 4, s 6] w)) (N' := (fun s w => B2 [s 0, s 3, s 4, s 6] w)) (X := (fun i => (bif Nat.beq i 4 then (fun s w => s4_p3 K B1 (s 0) (s 3) (s 4) w) else (bif Nat.beq i 1 then (fun s w => s4_p2 K B1 (s 0) (s 3) (s 4) w) else (bif Nat.beq i 0 then (fun s w => s4_p1 K w) else (fun _ _ => False)))))) (X' := (fun i => (bif Nat.beq i 4 then (s4_p3_den K (fun s w => B1 [s 0, s 3, s 4] w)) else (bif Nat.beq i 1 then (s4_p2_den K (fun s w => B1 [s 0, s 3, s 4] w)) else (bif Nat.beq i 0 then (s4_p1_den K) else (fun _ _ => False)))))) (R := s4_R K) (s := s) (w := w) (p := s4_p4 K B1 B2 (s 0) (s 3) (s 4) (s 6) w) (q := s4_p4_den K (fun s w => B1 [s 0, s 3, s 4] w) (fun s w => B2 [s 0, s 3, s 4, s 6] w) s w) tr_id (fun i => (tr_bif (fun s w h => s4_p3_ok K B1 s w @h) (tr_bif (fun s w h => s4_p2_ok K B1 s w @h) (tr_bif (fun s w h => s4_p1_ok K s w @h) tr_id)))) (by kernel_rfl) (by kernel_rfl) @h
def s4_p5 (K : Value → World → Prop) (B1 : List Value → World → Prop) (B2 : List Value → World → Prop) (B3 : List Value → World → Prop) (t0 t3 t4 t6 t7 : Value) (w : World) : Prop :=
  ixs 20 t0 t4 (fun t209 w =>
  fd 4 t209 (fun t210 w =>
  fd 13 t210 (fun t211 w =>
  ld1 t211 (fun t212 w =>
  ixs 9 t212 t6 (fun t214 w =>
  fd 1 t214 (fun t215 w =>
  fd 7 t215 (fun t216 w =>
  ld1 t216 (fun t217 w =>
  lnS t217 (fun t218 w =>
  boI .lss t7 t218 (fun t219 w =>
  ifb t219
  (ixs 20 t0 t4 (fun t224 w =>
  fd 4 t224 (fun t225 w =>
  fd 13 t225 (fun t226 w =>
  ld1 t226 (fun t227 w =>
  ixs 9 t227 t6 (fun t229 w =>
  fd 1 t229 (fun t230 w =>
  fd 7 t230 (fun t231 w =>
  ld1 t231 (fun t232 w =>
  ixs 8 t232 t7 (fun t234 w =>
  ldn 8 t234 (fun t235 w =>
  cl Try.prog 8 #[t235, t3] (fun t237 w =>
  boI .gtr t237 (.int .i64 65536) (fun t239 w =>
  ifb t239
  (K (.bool false) w)
  (boI .add t7 (.int .i64 1) (fun t221 w =>
  B3 [t0, t237, t4, t6, t221] w) w)) w) w) w) w) w) w) w) w) w) w) w) w)
  (s4_p4 K B1 B2 t0 t3 t4 t6 w)) w) w) w) w) w) w) w) w) w) w
def s4_p5_den (K : Value → World → Prop) (M1 : (Nat → Value) → World → Prop) (M2 : (Nat → Value) → World → Prop) (M3 : (Nat → Value) → World → Prop) : (Nat → Value) → World → Prop := denL Try.prog [(cd (Try.f4.body.getD .skip) [1, 1, 1, 0, 1, 0, 0, 1, 0, 0, 1, 1, 1, 1, 1, 1, 1, 1, 1, 1, 1, 1, 1, 1, 1, 1, 1, 1, 1, 0, 1, 0, 0, 1, 0, 0, 1, 1, 1, 1, 1, 1, 1, 0, 0, 0, 0]), (cd (Try.f4.body.getD .skip) [1, 1, 1, 0, 1, 0, 0, 1, 0, 0, 1, 1, 1, 1, 1, 1, 1, 1, 1, 1, 1, 1, 1, 1, 1, 1, 1, 1, 1, 0, 1, 0, 0, 1, 0, 0, 1, 1, 1, 1, 1, 1, 1, 0, 0, 0, 1]), (cd (Try.f4.body.getD .skip) [1, 1, 1, 0, 1, 0, 0, 1, 0, 0, 1, 1, 1, 1, 1, 1, 1, 1, 1, 1, 1, 1, 1, 1, 1, 1, 1, 1, 1, 0, 1, 0, 0, 1, 0, 0, 1, 1, 1, 1, 1, 1, 1, 0, 0, 1, 0]), (cd (Try.f4.body.getD .skip) [1, 1, 1, 0, 1, 0, 0, 1, 0, 0, 1, 1, 1, 1, 1, 1, 1, 1, 1, 1, 1, 1, 1, 1, 1, 1, 1, 1, 1, 0, 1, 0, 0, 1, 0, 0, 1, 1, 1, 1, 1, 1, 1, 0, 0, 1, 1])] M3 (fun i => (bif Nat.beq i 6 then (s4_p4_den K M1 M2) else (bif Nat.beq i 5 then (s4_p4_den K M1 M2) else (bif Nat.beq i 4 then (s4_p3_den K M1) else (bif Nat.beq i 1 then (s4_p2_den K M1) else (bif Nat.beq i 0 then (s4_p1_den K) else (fun _ _ => False))))))) (s4_R K)
theorem s4_p5_ok (K : Value → World → Prop) (B1 : List Value → World → Prop) (B2 : List Value → World → Prop) (B3 : List Value → World → Prop) (s : Nat → Value) (w : World) (h : s4_p5 K B1 B2 B3 (s 0) (s 3) (s 4) (s 6) (s 7) w) : Tr (s4_p5_den K (fun s w => B1 [s 0, s 3, s 4] w) (fun s w => B2 [s 0, s 3, s 4, s 6] w) (fun s w => B3 [s 0, s 3, s 4, s 6, s 7] w) s w) :=
  tr_simple (P := Try.prog) (codes := [(cd (Try.f4.body.getD .skip) [1, 1, 1, 0, 1, 0, 0, 1, 0, 0, 1, 1, 1, 1, 1, 1, 1, 1, 1, 1, 1, 1, 1, 1, 1, 1, 1, 1, 1, 0, 1, 0, 0, 1, 0, 0, 1, 1, 1, 1, 1, 1, 1, 0, 0, 0, 0]), (cd (Try.f4.body.getD .skip) [1, 1, 1, 0, 1, 0, 0, 1, 0, 0, 1, 1, 1, 1, 1, 1, 1, 1, 1, 1, 1, 1, 1, 1, 1, 1, 1, 1, 1, 0, 1, 0, 0, 1, 0, 0, 1, 1, 1, 1, 1, 1, 1, 0, 0, 0, 1]), (cd (Try.f4.body.getD .skip) [1, 1, 1, 0, 1, 0, 0, 1, 0, 0, 1, 1, 1, 1, 1, 1, 1, 1, 1, 1, 1, 1, 1, 1, 1, 1, 1, 1, 1, 0, 1, 0, 0, 1, 0, 0, 1, 1, 1, 1, 1, 1, 1, 0, 0, 1, 0]), (cd (Try.f4.body.getD .skip) [1, 1, 1, 0, 1, 0, 0, 1, 0, 0, 1, 1, 1, 1, 1, 1, 1, 1, 1, 1, 1, 1, 1, 1, 1, 1, 1, 1, 1, 0, 1, 0, 0, 1, 0, 0, 1, 1, 1, 1, 1, 1, 1, 0, 0, 1, 1])]) (N := (fun s w => B3 [s 0, s 3, s 4, s 6, s 7] w)) (N' := (fun s w => B3 [s 0, s 3, s 4, s 6, s 7] w)) (X := (fun i => (bif Nat.beq i 6 then (fun s w => s4_p4 K B1 B2 (s 0) (s 3) (s 4) (s 6) w) else (bif Nat.beq i 5 then (fun s w => s4_p4 K B1 B2 (s 0) (s 3) (s 4) (s 6) w) else (bif Nat.beq i 4 then (fun s w => s4_p3 K B1 (s 0) (s 3) (s 4) w) else (bif Nat.beq i 1 then (fun s w => s4_p2 K B1 (s 0) (s 3) (s 4) w) else (bif Nat.beq i 0 then (fun s w => s4_p1 K w) else (fun _ _ => False)))))))) (X' := (fun i => (bif Nat.beq i 6 then (s4_p4_den K (fun s w => B1 [s 0, s 3, s 4] w) (fun s w => B2 [s 0, s 3, s 4, s 6] w)) else (bif Nat.beq i 5 then (s4_p4_den K (fun s w => B1 [s 0, s 3, s 4] w) (fun s w => B2 [s 0, s 3, s 4, s 6] w)) else (bif Nat.beq i 4 then (s4_p3_den K (fun s w => B1 [s 0, s 3, s 4] w)) else (bif Nat.beq i 1 then (s4_p2_den K (fun s w => B1 [s 0, s 3, s 4] w)) else (bif Nat.beq i 0 then (s4_p1_den K) else (fun _ _ => False)))))))) (R := s4_R K) (s := s) (w := w) (p := s4_p5 K B1 B2 B3 (s 0) (s 3) (s 4) (s 6) (s 7) w) (q := s4_p5_den K (fun s w => B1 [s 0, s 3, s 4] w) (fun s w => B2 [s 0, s 3, s 4, s 6] w) (fun s w => B3 [s 0, s 3, s 4, s 6, s 7] w) s w) tr_id (fun i => (tr_bif (fun s w h => s4_p4_ok K B1 B2 s w @h) (tr_bif (fun s w h => s4_p4_ok K B1 B2 s w @h) (tr_bif (fun s w h => s4_p3_ok K B1 s w @h) (tr_bif (fun s w h => s4_p2_ok K B1 s w @h) (tr_bif (fun s w h => s4_p1_ok K s w @h) tr_id)))))) (by kernel_rfl) (by kernel_rfl) @h
def s4_p6_F (K : Value → World → Prop) (B1 : List Value → World → Prop) (B2 : List Value → World → Prop) (B3 : List Value → World → Prop) (l : List Value) (w : World) : Prop :=
  match l with
  | [t0, t3, t4, t6, t7] => s4_p5 K B1 B2 B3 t0 t3 t4 t6 t7 w
  | _ => False
theorem s4_p6_Fe {K : Value → World → Prop} {B1 : List Value → World → Prop} {B2 : List Value → World → Prop} {B3 : List Value → World → Prop} {t0 t3 t4 t6 t7 : Value} {w : World} : s4_p6_F K B1 B2 B3 [t0, t3, t4, t6, t7] w = s4_p5 K B1 B2 B3 t0 t3 t4 t6 t7 w := by kernel_rfl
def s4_p6 (K : Value → World → Prop) (B1 : List Value → World → Prop) (B2 : List Value → World → Prop) (t0 t3 t4 t6 t7 : Value) (w : World) : Prop :=
  LoopL (s4_p6_F K B1 B2) [t0, t3, t4, t6, t7] w
def s4_p6_den (K : Value → World → Prop) (M1 : (Nat → Value) → World → Prop) (M2 : (Nat → Value) → World → Prop) : (Nat → Value) → World → Prop := fun s w => LoopP (fun M3 s w => s4_p5_den K M1 M2 M3 s w) s w
theorem s4_p6_ok (K : Value → World → Prop) (B1 : List Value → World → Prop) (B2 : List Value → World → Prop) (s : Nat → Value) (w : World) (h : s4_p6 K B1 B2 (s 0) (s 3) (s 4) (s 6) (s 7) w) : Tr (s4_p6_den K (fun s w => B1 [s 0, s 3, s 4] w) (fun s w => B2 [s 0, s 3, s 4, s 6] w) s w) :=
  tr_loop (G := fun N' s w => s4_p5_den K (fun s w => B1 [s 0, s 3, s 4] w) (fun s w => B2 [s 0, s 3, s 4, s 6] w) N' s w) (F := s4_p6_F K B1 B2) (sel := fun s => [s 0, s 3, s 4, s 6, s 7]) (s := s) (w := w) (p := s4_p6 K B1 B2 (s 0) (s 3) (s 4) (s 6) (s 7) w) (q := s4_p6_den K (fun s w => B1 [s 0, s 3, s 4] w) (fun s w => B2 [s 0, s 3, s 4, s 6] w) s w) (fun B s w h => s4_p5_ok K B1 B2 B s w @h) (by kernel_rfl) (by kernel_rfl) @h
def s4_p7 (K : Value → World → Prop) (B1 : List Value → World → Prop) (B2 : List Value → World → Prop) (t0 t3 t4 t6 : Value) (w : World) : Prop :=
  ixs 20 t0 t4 (fun t162 w =>
  fd 4 t162 (fun t163 w =>
  fd 13 t163 (fun t164 w =>
  ld1 t164 (fun t165 w =>
  ixs 9 t165 t6 (fun t167 w =>
  fd 0 t167 (fun t168 w =>
  ld1 t168 (fun t169 w =>
  lnT t169 (fun t170 w =>
  boI .add t3 t170 (fun t171 w =>
  boI .gtr t171 (.int .i64 65536) (fun t173 w =>
  ifb t173
  (K (.bool false) w)
  (ixs 20 t0 t4 (fun t177 w =>
  fd 4 t177 (fun t178 w =>
  fd 13 t178 (fun t179 w =>
  ld1 t179 (fun t180 w =>
  ixs 9 t180 t6 (fun t182 w =>
  fd 1 t182 (fun t183 w =>
  fd 5 t183 (fun t184 w =>
  ld1 t184 (fun t185 w =>
  lnT t185 (fun t186 w =>
  boI .add t171 t186 (fun t187 w =>
  boI .gtr t187 (.int .i64 65536) (fun t189 w =>
  ifb t189
  (K (.bool false) w)
  (ixs 20 t0 t4 (fun t193 w =>
  fd 4 t193 (fun t194 w =>
  fd 13 t194 (fun t195 w =>
  ld1 t195 (fun t196 w =>
  ixs 9 t196 t6 (fun t198 w =>
  fd 1 t198 (fun t199 w =>
  fd 7 t199 (fun t200 w =>
  ld1 t200 (fun t201 w =>
  lnS t201 (fun t202 w =>
  boI .add t187 t202 (fun t203 w =>
  boI .gtr t203 (.int .i64 65536) (fun t205 w =>
  ifb t205
  (K (.bool false) w)
  (s4_p6 K B1 B2 t0 t203 t4 t6 (.int .i64 0) w)) w) w) w) w) w) w) w) w) w) w) w)) w) w) w) w) w) w) w) w) w) w) w)) w) w) w) w) w) w) w) w) w) w
def s4_p7_den (K : Value → World → Prop) (M1 : (Nat → Value) → World → Prop) (M2 : (Nat → Value) → World → Prop) : (Nat → Value) → World → Prop := denL Try.prog [(cd (Try.f4.body.getD .skip) [1, 1, 1, 0, 1, 0, 0, 1, 0, 0, 1, 1, 1, 1, 1, 1, 1, 1, 1, 1, 1, 1, 1, 1, 1, 1, 1, 1, 1, 0, 1, 0, 0, 1, 0, 0, 0]), (cd (Try.f4.body.getD .skip) [1, 1, 1, 0, 1, 0, 0, 1, 0, 0, 1, 1, 1, 1, 1, 1, 1, 1, 1, 1, 1, 1, 1, 1, 1, 1, 1, 1, 1, 0, 1, 0, 0, 1, 0, 0, 1, 0, 0]), (cd (Try.f4.body.getD .skip) [1, 1, 1, 0, 1, 0, 0, 1, 0, 0, 1, 1, 1, 1, 1, 1, 1, 1, 1, 1, 1, 1, 1, 1, 1, 1, 1, 1, 1, 0, 1, 0, 0, 1, 0, 0, 1, 0, 1]), (cd (Try.f4.body.getD .skip) [1, 1, 1, 0, 1, 0, 0, 1, 0, 0, 1, 1, 1, 1, 1, 1, 1, 1, 1, 1, 1, 1, 1, 1, 1, 1, 1, 1, 1, 0, 1, 0, 0, 1, 0, 0, 1, 1, 0]), (cd (Try.f4.body.getD .skip) [1, 1, 1, 0, 1, 0, 0, 1, 0, 0, 1, 1, 1, 1, 1, 1, 1, 1, 1, 1, 1, 1, 1, 1, 1, 1, 1, 1, 1, 0, 1, 0, 0, 1, 0, 0, 1, 1, 1, 0, 0]), (cd (Try.f4.body.getD .skip) [1, 1, 1, 0, 1, 0, 0, 1, 0, 0, 1, 1, 1, 1, 1, 1, 1, 1, 1, 1, 1, 1, 1, 1, 1, 1, 1, 1, 1, 0, 1, 0, 0, 1, 0, 0, 1, 1, 1, 0, 1]), (cd (Try.f4.body.getD .skip) [1, 1, 1, 0, 1, 0, 0, 1, 0, 0, 1, 1, 1, 1, 1, 1, 1, 1, 1, 1, 1, 1, 1, 1, 1, 1, 1, 1, 1, 0, 1, 0, 0, 1, 0, 0, 1, 1, 1, 1, 0]), (cd (Try.f4.body.getD .skip) [1, 1, 1, 0, 1, 0, 0, 1, 0, 0, 1, 1, 1, 1, 1, 1, 1, 1, 1, 1, 1, 1, 1, 1, 1, 1, 1, 1, 1, 0, 1, 0, 0, 1, 0, 0, 1, 1, 1, 1, 1, 0, 0]), (cd (Try.f4.body.getD .skip) [1, 1, 1, 0, 1, 0, 0, 1, 0, 0, 1, 1, 1, 1, 1, 1, 1, 1, 1, 1, 1, 1, 1, 1, 1, 1, 1, 1, 1, 0, 1, 0, 0, 1, 0, 0, 1, 1, 1, 1, 1, 0, 1]), (cd (Try.f4.body.getD .skip) [1, 1, 1, 0, 1, 0, 0, 1, 0, 0, 1, 1, 1, 1, 1, 1, 1, 1, 1, 1, 1, 1, 1, 1, 1, 1, 1, 1, 1, 0, 1, 0, 0, 1, 0, 0, 1, 1, 1, 1, 1, 1, 0])] (s4_p6_den K M1 M2) (fun i => (bif Nat.beq i 5 then (s4_p4_den K M1 M2) else (bif Nat.beq i 4 then (s4_p3_den K M1) else (bif Nat.beq i 1 then (s4_p2_den K M1) else (bif Nat.beq i 0 then (s4_p1_den K) else (fun _ _ => False)))))) (s4_R K)
theorem s4_p7_ok (K : Value → World → Prop) (B1 : List Value → World → Prop) (B2 : List Value → World → Prop) (s : Nat → Value) (w : World) (h : s4_p7 K B1 B2 (s 0) (s 3) (s 4) (s 6) w) : Tr (s4_p7_den K (fun s w => B1 [s 0, s 3, s 4] w) (fun s w => B2 [s 0, s 3, s 4, s 6] w) s w) :=
  tr_simple (P := Try.prog) (codes := [(cd (Try.f4.body.getD .skip) [1, 1, 1, 0, 1, 0, 0, 1, 0, 0, 1, 1, 1, 1, 1, 1, 1, 1, 1, 1, 1, 1, 1, 1, 1, 1, 1, 1, 1, 0, 1, 0, 0, 1, 0, 0, 0]), (cd (Try.f4.body.getD .skip) [1, 1, 1, 0, 1, 0, 0, 1, 0, 0, 1, 1, 1, 1, 1, 1, 1, 1, 1, 1, 1, 1, 1, 1, 1, 1, 1, 1, 1, 0, 1, 0, 0, 1, 0, 0, 1, 0, 0]), (cd (Try.f4.body.getD .skip) [1, 1, 1, 0, 1, 0, 0, 1, 0, 0, 1, 1, 1, 1, 1, 1, 1, 1, 1, 1, 1, 1, 1, 1, 1, 1, 1, 1, 1, 0, 1, 0, 0, 1, 0, 0, 1, 0, 1]), (cd (Try.f4.body.getD .skip) [1, 1, 1, 0, 1, 0, 0, 1, 0, 0, 1, 1, 1, 1, 1, 1, 1, 1, 1, 1, 1, 1, 1, 1, 1, 1, 1, 1, 1, 0, 1, 0, 0, 1, 0, 0, 1, 1, 0]), (cd (Try.f4.body.getD .skip) [1, 1, 1, 0, 1, 0, 0, 1, 0, 0, 1, 1, 1, 1, 1, 1, 1, 1, 1, 1, 1, 1, 1, 1, 1, 1, 1, 1, 1, 0, 1, 0, 0, 1, 0, 0, 1, 1, 1, 0, 0]), (cd (Try.f4.body.getD .skip) [1, 1, 1, 0, 1, 0, 0, 1, 0, 0, 1, 1, 1, 1, 1, 1, 1, 1, 1, 1, 1, 1, 1, 1, 1, 1, 1, 1, 1, 0, 1, 0, 0, 1, 0, 0, 1, 1, 1, 0, 1]), (cd (Try.f4.body.getD .skip) [1, 1, 1, 0, 1, 0, 0, 1, 0, 0, 1, 1, 1, 1, 1, 1, 1, 1, 1, 1, 1, 1, 1, 1, 1, 1, 1, 1, 1, 0, 1, 0, 0, 1, 0, 0, 1, 1, 1, 1, 0]), (cd (Try.f4.body.getD .skip) [1, 1, 1, 0, 1, 0, 0, 1, 0, 0, 1, 1, 1, 1, 1, 1, 1, 1, 1, 1, 1, 1, 1, 1, 1, 1, 1, 1, 1, 0, 1, 0, 0, 1, 0, 0, 1, 1, 1, 1, 1, 0, 0]), (cd (Try.f4.body.getD .skip) [1, 1, 1, 0, 1, 0, 0, 1, 0, 0, 1, 1, 1, 1, 1, 1, 1, 1, 1, 1, 1, 1, 1, 1, 1, 1, 1, 1, 1, 0, 1, 0, 0, 1, 0, 0, 1, 1, 1, 1, 1, 0, 1]), (cd (Try.f4.body.getD .skip) [1, 1, 1, 0, 1, 0, 0, 1, 0, 0, 1, 1, 1, 1, 1, 1, 1, 1, 1, 1, 1, 1, 1, 1, 1, 1, 1, 1, 1, 0, 1, 0, 0, 1, 0, 0, 1, 1, 1, 1, 1, 1, 0])]) (N := (fun s w => s4_p6 K B1 B2 (s 0) (s 3) (s 4) (s 6) (s 7) w)) (N' := (s4_p6_den K (fun s w => B1 [s 0, s 3, s 4] w) (fun s w => B2 [s 0, s 3, s 4, s 6] w))) (X := (fun i => (bif Nat.beq i 5 then (fun s w => s4_p4 K B1 B2 (s 0) (s 3) (s 4) (s 6) w) else (bif Nat.beq i 4 then (fun s w => s4_p3 K B1 (s 0) (s 3) (s 4) w) else (bif Nat.beq i 1 then (fun s w => s4_p2 K B1 (s 0) (s 3) (s 4) w) else (bif Nat.beq i 0 then (fun s w => s4_p1 K w) else (fun _ _ => False))))))) (X' := (fun i => (bif Nat.beq i 5 then (s4_p4_den K (fun s w => B1 [s 0, s 3, s 4] w) (fun s w => B2 [s 0, s 3, s 4, s 6] w)) else (bif Nat.beq i 4 then (s4_p3_den K (fun s w => B1 [s 0, s 3, s 4] w)) else (bif Nat.beq i 1 then (s4_p2_den K (fun s w => B1 [s 0, s 3, s 4] w)) else (bif Nat.beq i 0 then (s4_p1_den K) else (fun _ _ => False))))))) (R := s4_R K) (s := s) (w := w) (p := s4_p7 K B1 B2 (s 0) (s 3) (s 4) (s 6) w) (q := s4_p7_den K (fun s w => B1 [s 0, s 3, s 4] w) (fun s w => B2 [s 0, s 3, s 4, s 6] w) s w) (fun s w h => s4_p6_ok K B1 B2 s w @h) (fun i => (tr_bif (fun s w h => s4_p4_ok K B1 B2 s w @h) (tr_bif (fun s w h => s4_p3_ok K B1 s w @h) (tr_bif (fun s w h => s4_p2_ok K B1 s w @h) (tr_bif (fun s w h => s4_p1_ok K s w @h) tr_id))))) (by kernel_rfl) (by kernel_rfl) @h
def s4_p8 (K : Value → World → Prop) (B1 : List Value → World → Prop) (B2 : List Value → World → Prop) (t0 t3 t4 t6 : Value) (w : World) : Prop :=
  ixs 20 t0 t4 (fun t151 w =>
  fd 4 t151 (fun t152 w =>
  fd 13 t152 (fun t153 w =>
  ld1 t153 (fun t154 w =>
  lnS t154 (fun t155 w =>
  boI .lss t6 t155 (fun t156 w =>
  ifb t156
  (s4_p7 K B1 B2 t0 t3 t4 t6 w)
  (s4_p3 K B1 t0 t3 t4 w)) w) w) w) w) w) w
def s4_p8_den (K : Value → World → Prop) (M1 : (Nat → Value) → World → Prop) (M2 : (Nat → Value) → World → Prop) : (Nat → Value) → World → Prop := denL Try.prog [(cd (Try.f4.body.getD .skip) [1, 1, 1, 0, 1, 0, 0, 1, 0, 0, 1, 1, 1, 1, 1, 1, 1, 1, 1, 1, 1, 1, 1, 1, 1, 1, 1, 1, 1, 0, 1, 0, 0, 0, 0]), (cd (Try.f4.body.getD .skip) [1, 1, 1, 0, 1, 0, 0, 1, 0, 0, 1, 1, 1, 1, 1, 1, 1, 1, 1, 1, 1, 1, 1, 1, 1, 1, 1, 1, 1, 0, 1, 0, 0, 0, 1])] (s4_p7_den K M1 M2) (fun i => (bif Nat.beq i 4 then (s4_p3_den K M1) else (bif Nat.beq i 1 then (s4_p2_den K M1) else (bif Nat.beq i 0 then (s4_p1_den K) else (fun _ _ => False))))) (s4_R K)
theorem s4_p8_ok (K : Value → World → Prop) (B1 : List Value → World → Prop) (B2 : List Value → World → Prop) (s : Nat → Value) (w : World) (h : s4_p8 K B1 B2 (s 0) (s 3) (s 4) (s 6) w) : Tr (s4_p8_den K (fun s w => B1 [s 0, s 3, s 4] w) (fun s w => B2 [s 0, s 3, s 4, s 6] w) s w) :=
  tr_simple (P := Try.prog) (codes := [(cd (Try.f4.body.getD .skip) [1, 1, 1, 0, 1, 0, 0, 1, 0, 0, 1, 1, 1, 1, 1, 1, 1, 1, 1, 1, 1, 1, 1, 1, 1, 1, 1, 1, 1, 0, 1, 0, 0, 0, 0]), (cd (Try.f4.body.getD .skip) [1, 1, 1, 0, 1, 0, 0, 1, 0, 0, 1, 1, 1, 1, 1, 1, 1, 1, 1, 1, 1, 1, 1, 1, 1, 1, 1, 1, 1, 0, 1, 0, 0, 0, 1])]) (N := (fun s w => s4_p7 K B1 B2 (s 0) (s 3) (s 4) (s 6) w)) (N' := (s4_p7_den K (fun s w => B1 [s 0, s 3, s 4] w) (fun s w => B2 [s 0, s 3, s 4, s 6] w))) (X := (fun i => (bif Nat.beq i 4 then (fun s w => s4_p3 K B1 (s 0) (s 3) (s 4) w) else (bif Nat.beq i 1 then (fun s w => s4_p2 K B1 (s 0) (s 3) (s 4) w) else (bif Nat.beq i 0 then (fun s w => s4_p1 K w) else (fun _ _ => False)))))) (X' := (fun i => (bif Nat.beq i 4 then (s4_p3_den K (fun s w => B1 [s 0, s 3, s 4] w)) else (bif Nat.beq i 1 then (s4_p2_den K (fun s w => B1 [s 0, s 3, s 4] w)) else (bif Nat.beq i 0 then (s4_p1_den K) else (fun _ _ => False)))))) (R := s4_R K) (s := s) (w := w) (p := s4_p8 K B1 B2 (s 0) (s 3) (s 4) (s 6) w) (q := s4_p8_den K (fun s w => B1 [s 0, s 3, s 4] w) (fun s w => B2 [s 0, s 3, s 4, s 6] w) s w) (fun s w h => s4_p7_ok K B1 B2 s w @h) (fun i => (tr_bif (fun s w h => s4_p3_ok K B1 s w @h) (tr_bif (fun s w h => s4_p2_ok K B1 s w @h) (tr_bif (fun s w h => s4_p1_ok K s w @h) tr_id)))) (by kernel_rfl) (by kernel_rfl) @h
def s4_p9_F (K : Value → World → Prop) (B1 : List Value → World → Prop) (B2 : List Value → World → Prop) (l : List Value) (w : World) : Prop :=
  match l with
  | [t0, t3, t4, t6] => s4_p8 K B1 B2 t0 t3 t4 t6 w
  | _ => False
theorem s4_p9_Fe {K : Value → World → Prop} {B1 : List Value → World → Prop} {B2 : List Value → World → Prop} {t0 t3 t4 t6 : Value} {w : World} : s4_p9_F K B1 B2 [t0, t3, t4, t6] w = s4_p8 K B1 B2 t0 t3 t4 t6 w := by kernel_rfl
def s4_p9 (K : Value → World → Prop) (B1 : List Value → World → Prop) (t0 t3 t4 t6 : Value) (w : World) : Prop :=
  LoopL (s4_p9_F K B1) [t0, t3, t4, t6] w
def s4_p9_den (K : Value → World → Prop) (M1 : (Nat → Value) → World → Prop) : (Nat → Value) → World → Prop := fun s w => LoopP (fun M2 s w => s4_p8_den K M1 M2 s w) s w
theorem s4_p9_ok (K : Value → World → Prop) (B1 : List Value → World → Prop) (s : Nat → Value) (w : World) (h : s4_p9 K B1 (s 0) (s 3) (s 4) (s 6) w) : Tr (s4_p9_den K (fun s w => B1 [s 0, s 3, s 4] w) s w) :=
  tr_loop (G := fun N' s w => s4_p8_den K (fun s w => B1 [s 0, s 3, s 4] w) N' s w) (F := s4_p9_F K B1) (sel := fun s => [s 0, s 3, s 4, s 6]) (s := s) (w := w) (p := s4_p9 K B1 (s 0) (s 3) (s 4) (s 6) w) (q := s4_p9_den K (fun s w => B1 [s 0, s 3, s 4] w) s w) (fun B s w h => s4_p8_ok K B1 B s w @h) (by kernel_rfl) (by kernel_rfl) @h
def s4_p10 (K : Value → World → Prop) (B1 : List Value → World → Prop) (t0 t3 t4 : Value) (w : World) : Prop :=
  ixs 20 t0 t4 (fun t81 w =>
  fd 4 t81 (fun t82 w =>
  fd 8 t82 (fun t83 w =>
  ld1 t83 (fun t84 w =>
  lnT t84 (fun t85 w =>
  boI .add t3 t85 (fun t86 w =>
  boI .gtr t86 (.int .i64 65536) (fun t88 w =>
  ifb t88
  (K (.bool false) w)
  (ixs 20 t0 t4 (fun t92 w =>
  fd 4 t92 (fun t93 w =>
  fd 9 t93 (fun t94 w =>
  fd 0 t94 (fun t95 w =>
  ld1 t95 (fun t96 w =>
  lnT t96 (fun t97 w =>
  boI .add t86 t97 (fun t98 w =>
  boI .gtr t98 (.int .i64 65536) (fun t100 w =>
  ifb t100
  (K (.bool false) w)
  (ixs 20 t0 t4 (fun t104 w =>
  fd 4 t104 (fun t105 w =>
  fd 9 t105 (fun t106 w =>
  fd 1 t106 (fun t107 w =>
  ld1 t107 (fun t108 w =>
  lnT t108 (fun t109 w =>
  boI .add t98 t109 (fun t110 w =>
  boI .gtr t110 (.int .i64 65536) (fun t112 w =>
  ifb t112
  (K (.bool false) w)
  (ixs 20 t0 t4 (fun t116 w =>
  fd 4 t116 (fun t117 w =>
  fd 11 t117 (fun t118 w =>
  fd 0 t118 (fun t119 w =>
  ld1 t119 (fun t120 w =>
  lnT t120 (fun t121 w =>
  boI .add t110 t121 (fun t122 w =>
  boI .gtr t122 (.int .i64 65536) (fun t124 w =>
  ifb t124
  (K (.bool false) w)
  (ixs 20 t0 t4 (fun t128 w =>
  fd 4 t128 (fun t129 w =>
  fd 11 t129 (fun t130 w =>
  fd 1 t130 (fun t131 w =>
  ld1 t131 (fun t132 w =>
  lnT t132 (fun t133 w =>
  boI .add t122 t133 (fun t134 w =>
  boI .gtr t134 (.int .i64 65536) (fun t136 w =>
  ifb t136
  (K (.bool false) w)
  (ixs 20 t0 t4 (fun t140 w =>
  fd 4 t140 (fun t141 w =>
  fd 13 t141 (fun t142 w =>
  ld1 t142 (fun t143 w =>
  lnS t143 (fun t144 w =>
  boI .add t134 t144 (fun t145 w =>
  boI .gtr t145 (.int .i64 65536) (fun t147 w =>
  ifb t147
  (K (.bool false) w)
  (s4_p9 K B1 t0 t145 t4 (.int .i64 0) w)) w) w) w) w) w) w) w)) w) w) w) w) w) w) w) w)) w) w) w) w) w) w) w) w)) w) w) w) w) w) w) w) w)) w) w) w) w) w) w) w) w)) w) w) w) w) w) w) w
def s4_p10_den (K : Value → World → Prop) (M1 : (Nat → Value) → World → Prop) : (Nat → Value) → World → Prop := denL Try.prog [(cd (Try.f4.body.getD .skip) [1, 1, 1, 0, 1, 0, 0, 1, 0, 0, 1, 1, 1, 1, 1, 1, 1, 0]), (cd (Try.f4.body.getD .skip) [1, 1, 1, 0, 1, 0, 0, 1, 0, 0, 1, 1, 1, 1, 1, 1, 1, 1, 0, 0]), (cd (Try.f4.body.getD .skip) [1, 1, 1, 0, 1, 0, 0, 1, 0, 0, 1, 1, 1, 1, 1, 1, 1, 1, 0, 1]), (cd (Try.f4.body.getD .skip) [1, 1, 1, 0, 1, 0, 0, 1, 0, 0, 1, 1, 1, 1, 1, 1, 1, 1, 1, 0]), (cd (Try.f4.body.getD .skip) [1, 1, 1, 0, 1, 0, 0, 1, 0, 0, 1, 1, 1, 1, 1, 1, 1, 1, 1, 1, 0, 0]), (cd (Try.f4.body.getD .skip) [1, 1, 1, 0, 1, 0, 0, 1, 0, 0, 1, 1, 1, 1, 1, 1, 1, 1, 1, 1, 0, 1]), (cd (Try.f4.body.getD .skip) [1, 1, 1, 0, 1, 0, 0, 1, 0, 0, 1, 1, 1, 1, 1, 1, 1, 1, 1, 1, 1, 0]), (cd (Try.f4.body.getD .skip) [1, 1, 1, 0, 1, 0, 0, 1, 0, 0, 1, 1, 1, 1, 1, 1, 1, 1, 1, 1, 1, 1, 0, 0]), (cd (Try.f4.body.getD .skip) [1, 1, 1, 0, 1, 0, 0, 1, 0, 0, 1, 1, 1, 1, 1, 1, 1, 1, 1, 1, 1, 1, 0, 1]), (cd (Try.f4.body.getD .skip) [1, 1, 1, 0, 1, 0, 0, 1, 0, 0, 1, 1, 1, 1, 1, 1, 1, 1, 1, 1, 1, 1, 1, 0]), (cd (Try.f4.body.getD .skip) [1, 1, 1, 0, 1, 0, 0, 1, 0, 0, 1, 1, 1, 1, 1, 1, 1, 1, 1, 1, 1, 1, 1, 1, 0, 0]), (cd (Try.f4.body.getD .skip) [1, 1, 1, 0, 1, 0, 0, 1, 0, 0, 1, 1, 1, 1, 1, 1, 1, 1, 1, 1, 1, 1, 1, 1, 0, 1]), (cd (Try.f4.body.getD .skip) [1, 1, 1, 0, 1, 0, 0, 1, 0, 0, 1, 1, 1, 1, 1, 1, 1, 1, 1, 1, 1, 1, 1, 1, 1, 0]), (cd (Try.f4.body.getD .skip) [1, 1, 1, 0, 1, 0, 0, 1, 0, 0, 1, 1, 1, 1, 1, 1, 1, 1, 1, 1, 1, 1, 1, 1, 1, 1, 0, 0]), (cd (Try.f4.body.getD .skip) [1, 1, 1, 0, 1, 0, 0, 1, 0, 0, 1, 1, 1, 1, 1, 1, 1, 1, 1, 1, 1, 1, 1, 1, 1, 1, 0, 1]), (cd (Try.f4.body.getD .skip) [1, 1, 1, 0, 1, 0, 0, 1, 0, 0, 1, 1, 1, 1, 1, 1, 1, 1, 1, 1, 1, 1, 1, 1, 1, 1, 1, 0]), (cd (Try.f4.body.getD .skip) [1, 1, 1, 0, 1, 0, 0, 1, 0, 0, 1, 1, 1, 1, 1, 1, 1, 1, 1, 1, 1, 1, 1, 1, 1, 1, 1, 1, 0, 0]), (cd (Try.f4.body.getD .skip) [1, 1, 1, 0, 1, 0, 0, 1, 0, 0, 1, 1, 1, 1, 1, 1, 1, 1, 1, 1, 1, 1, 1, 1, 1, 1, 1, 1, 0, 1]), (cd (Try.f4.body.getD .skip) [1, 1, 1, 0, 1, 0, 0, 1, 0, 0, 1, 1, 1, 1, 1, 1, 1, 1, 1, 1, 1, 1, 1, 1, 1, 1, 1, 1, 1, 0, 0])] (s4_p9_den K M1) (fun i => (bif Nat.beq i 1 then (s4_p2_den K M1) else (bif Nat.beq i 0 then (s4_p1_den K) else (fun _ _ => False)))) (s4_R K)
theorem s4_p10_ok (K : Value → World → Prop) (B1 : List Value → World → Prop) (s : Nat → Value) (w : World) (h : s4_p10 K B1 (s 0) (s 3) (s 4) w) : Tr (s4_p10_den K (fun s w => B1 [s 0, s 3, s 4] w) s w) :=
  tr_simple (P := Try.prog) (codes := [(cd (Try.f4.body.getD .skip) [1, 1, 1, 0, 1, 0, 0, 1, 0, 0, 1, 1, 1, 1, 1, 1, 1, 0]), (cd (Try.f4.body.getD .skip) [1, 1, 1, 0, 1, 0, 0, 1, 0, 0, 1, 1, 1, 1, 1, 1, 1, 1, 0, 0]), (cd (Try.f4.body.getD .skip) [1, 1, 1, 0, 1, 0, 0, 1, 0, 0, 1, 1, 1, 1, 1, 1, 1, 1, 0, 1]), (cd (Try.f4.body.getD .skip) [1, 1, 1, 0, 1, 0, 0, 1, 0, 0, 1, 1, 1, 1, 1, 1, 1, 1, 1, 0]), (cd (Try.f4.body.getD .skip) [1, 1, 1, 0, 1, 0, 0, 1, 0, 0, 1, 1, 1, 1, 1, 1, 1, 1, 1, 1, 0, 0]), (cd (Try.f4.body.getD .skip) [1, 1, 1, 0, 1, 0, 0, 1, 0, 0, 1, 1, 1, 1, 1, 1, 1, 1, 1, 1, 0, 1]), (cd (Try.f4.body.getD .skip) [1, 1, 1, 0, 1, 0, 0, 1, 0, 0, 1, 1, 1, 1, 1, 1, 1, 1, 1, 1, 1, 0]), (cd (Try.f4.body.getD .skip) [1, 1, 1, 0, 1, 0, 0, 1, 0, 0, 1, 1, 1, 1, 1, 1, 1, 1, 1, 1, 1, 1, 0, 0]), (cd (Try.f4.body.getD .skip) [1, 1, 1, 0, 1, 0, 0, 1, 0, 0, 1, 1, 1, 1, 1, 1, 1, 1, 1, 1, 1, 1, 0, 1]), (cd (Try.f4.body.getD .skip) [1, 1, 1, 0, 1, 0, 0, 1, 0, 0, 1, 1, 1, 1, 1, 1, 1, 1, 1, 1, 1, 1, 1, 0]), (cd (Try.f4.body.getD .skip) [1, 1, 1, 0, 1, 0, 0, 1, 0, 0, 1, 1, 1, 1, 1, 1, 1, 1, 1, 1, 1, 1, 1, 1, 0, 0]), (cd (Try.f4.body.getD .skip) [1, 1, 1, 0, 1, 0, 0, 1, 0, 0, 1, 1, 1, 1, 1, 1, 1, 1, 1, 1, 1, 1, 1, 1, 0, 1]), (cd (Try.f4.body.getD .skip) [1, 1, 1, 0, 1, 0, 0, 1, 0, 0, 1, 1, 1, 1, 1, 1, 1, 1, 1, 1, 1, 1, 1, 1, 1, 0]), (cd (Try.f4.body.getD .skip) [1, 1, 1, 0, 1, 0, 0, 1, 0, 0, 1, 1, 1, 1, 1, 1, 1, 1, 1, 1, 1, 1, 1, 1, 1, 1, 0, 0]), (cd (Try.f4.body.getD .skip) [1, 1, 1, 0, 1, 0, 0, 1, 0, 0, 1, 1, 1, 1, 1, 1, 1, 1, 1, 1, 1, 1, 1, 1, 1, 1, 0, 1]), (cd (Try.f4.body.getD .skip) [1, 1, 1, 0, 1, 0, 0, 1, 0, 0, 1, 1, 1, 1, 1, 1, 1, 1, 1, 1, 1, 1, 1, 1, 1, 1, 1, 0]), (cd (Try.f4.body.getD .skip) [1, 1, 1, 0, 1, 0, 0, 1, 0, 0, 1, 1, 1, 1, 1, 1, 1, 1, 1, 1, 1, 1, 1, 1, 1, 1, 1, 1, 0, 0]), (cd (Try.f4.body.getD .skip) [1, 1, 1, 0, 1, 0, 0, 1, 0, 0, 1, 1, 1, 1, 1, 1, 1, 1, 1, 1, 1, 1, 1, 1, 1, 1, 1, 1, 0, 1]), (cd (Try.f4.body.getD .skip) [1, 1, 1, 0, 1, 0, 0, 1, 0, 0, 1, 1, 1, 1, 1, 1, 1, 1, 1, 1, 1, 1, 1, 1, 1, 1, 1, 1, 1, 0, 0])]) (N := (fun s w => s4_p9 K B1 (s 0) (s 3) (s 4) (s 6) w)) (N' := (s4_p9_den K (fun s w => B1 [s 0, s 3, s 4] w))) (X := (fun i => (bif Nat.beq i 1 then (fun s w => s4_p2 K B1 (s 0) (s 3) (s 4) w) else (bif Nat.beq i 0 then (fun s w => s4_p1 K w) else (fun _ _ => False))))) (X' := (fun i => (bif Nat.beq i 1 then (s4_p2_den K (fun s w => B1 [s 0, s 3, s 4] w)) else (bif Nat.beq i 0 then (s4_p1_den K) else (fun _ _ => False))))) (R := s4_R K) (s := s) (w := w) (p := s4_p10 K B1 (s 0) (s 3) (s 4) w) (q := s4_p10_den K (fun s w => B1 [s 0, s 3, s 4] w) s w) (fun s w h => s4_p9_ok K B1 s w @h) (fun i => (tr_bif (fun s w h => s4_p2_ok K B1 s w @h) (tr_bif (fun s w h => s4_p1_ok K s w @h) tr_id))) (by kernel_rfl) (by kernel_rfl) @h
def s4_p11 (K : Value → World → Prop) (B1 : List Value → World → Prop) (B2 : List Value → World → Prop) (t0 t3 t4 t5 : Value) (w : World) : Prop :=
  ixs 20 t0 t4 (fun t56 w =>
  fd 4 t56 (fun t57 w =>
  fd 7 t57 (fun t58 w =>
  ld1 t58 (fun t59 w =>
  lnS t59 (fun t60 w =>
  boI .lss t5 t60 (fun t61 w =>
  ifb t61
  (ixs 20 t0 t4 (fun t67 w =>
  fd 4 t67 (fun t68 w =>
  fd 7 t68 (fun t69 w =>
  ld1 t69 (fun t70 w =>
  ixs 1 t70 t5 (fun t72 w =>
  ld1 t72 (fun t73 w =>
  lnT t73 (fun t74 w =>
  boI .add t3 t74 (fun t75 w =>
  boI .gtr t75 (.int .i64 65536) (fun t77 w =>
  ifb t77
  (K (.bool false) w)
  (boI .add t5 (.int .i64 1) (fun t63 w =>
  B2 [t0, t75, t4, t63] w) w)) w) w) w) w) w) w) w) w) w)
  (s4_p10 K B1 t0 t3 t4 w)) w) w) w) w) w) w
def s4_p11_den (K : Value → World → Prop) (M1 : (Nat → Value) → World → Prop) (M2 : (Nat → Value) → World → Prop) : (Nat → Value) → World → Prop := denL Try.prog [(cd (Try.f4.body.getD .skip) [1, 1, 1, 0, 1, 0, 0, 1, 0, 0, 1, 1, 1, 1, 1, 1, 0, 1, 0, 0, 0, 0]), (cd (Try.f4.body.getD .skip) [1, 1, 1, 0, 1, 0, 0, 1, 0, 0, 1, 1, 1, 1, 1, 1, 0, 1, 0, 0, 0, 1]), (cd (Try.f4.body.getD .skip) [1, 1, 1, 0, 1, 0, 0, 1, 0, 0, 1, 1, 1, 1, 1, 1, 0, 1, 0, 0, 1, 0]), (cd (Try.f4.body.getD .skip) [1, 1, 1, 0, 1, 0, 0, 1, 0, 0, 1, 1, 1, 1, 1, 1, 0, 1, 0, 0, 1, 1])] M2 (fun i => (bif Nat.beq i 2 then (s4_p10_den K M1) else (bif Nat.beq i 1 then (s4_p2_den K M1) else (bif Nat.beq i 0 then (s4_p1_den K) else (fun _ _ => False))))) (s4_R K)
theorem s4_p11_ok (K : Value → World → Prop) (B1 : List Value → World → Prop) (B2 : List Value → World → Prop) (s : Nat → Value) (w : World) (h : s4_p11 K B1 B2 (s 0) (s 3) (s 4) (s 5) w) : Tr (s4_p11_den K (fun s w => B1 [s 0, s 3, s 4] w) (fun s w => B2 [s 0, s 3, s 4, s 5] w) s w) :=
  tr_simple (P := Try.prog) (codes := [(cd (Try.f4.body.getD .skip) [1, 1, 1, 0, 1, 0, 0, 1, 0, 0, 1, 1, 1, 1, 1, 1, 0, 1, 0, 0, 0, 0]), (cd (Try.f4.body.getD .skip) [1, 1, 1, 0, 1, 0, 0, 1, 0, 0, 1, 1, 1, 1, 1, 1, 0, 1, 0, 0, 0, 1]), (cd (Try.f4.body.getD .skip) [1, 1, 1, 0, 1, 0, 0, 1, 0, 0, 1, 1, 1, 1, 1, 1, 0, 1, 0, 0, 1, 0]), (cd (Try.f4.body.getD .skip) [1, 1, 1, 0, 1, 0, 0, 1, 0, 0, 1, 1, 1, 1, 1, 1, 0, 1, 0, 0, 1, 1])]) (N := (fun s w => B2 [s 0, s 3, s 4, s 5] w)) (N' := (fun s w => B2 [s 0, s 3, s 4, s 5] w)) (X := (fun i => (bif Nat.beq i 2 then (fun s w => s4_p10 K B1 (s 0) (s 3) (s 4) w) else (bif Nat.beq i 1 then (fun s w => s4_p2 K B1 (s 0) (s 3) (s 4) w) else (bif Nat.beq i 0 then (fun s w => s4_p1 K w) else (fun _ _ => False)))))) (X' := (fun i => (bif Nat.beq i 2 then (s4_p10_den K (fun s w => B1 [s 0, s 3, s 4] w)) else (bif Nat.beq i 1 then (s4_p2_den K (fun s w => B1 [s 0, s 3, s 4] w)) else (bif Nat.beq i 0 then (s4_p1_den K) else (fun _ _ => False)))))) (R := s4_R K) (s := s) (w := w) (p := s4_p11 K B1 B2 (s 0) (s 3) (s 4) (s 5) w) (q := s4_p11_den K (fun s w => B1 [s 0, s 3, s 4] w) (fun s w => B2 [s 0, s 3, s 4, s 5] w) s w) tr_id (fun i => (tr_bif (fun s w h => s4_p10_ok K B1 s w @h) (tr_bif (fun s w h => s4_p2_ok K B1 s w @h) (tr_bif (fun s w h => s4_p1_ok K s w @h) tr_id)))) (by kernel_rfl) (by kernel_rfl) @h
def s4_p12_F (K : Value → World → Prop) (B1 : List Value → World → Prop) (B2 : List Value → World → Prop) (l : List Value) (w : World) : Prop :=
  match l with
  | [t0, t3, t4, t5] => s4_p11 K B1 B2 t0 t3 t4 t5 w
  | _ => False
theorem s4_p12_Fe {K : Value → World → Prop} {B1 : List Value → World → Prop} {B2 : List Value → World → Prop} {t0 t3 t4 t5 : Value} {w : World} : s4_p12_F K B1 B2 [t0, t3, t4, t5] w = s4_p11 K B1 B2 t0 t3 t4 t5 w := by kernel_rfl
def s4_p12 (K : Value → World → Prop) (B1 : List Value → World → Prop) (t0 t3 t4 t5 : Value) (w : World) : Prop :=
  LoopL (s4_p12_F K B1) [t0, t3, t4, t5] w
def s4_p12_den (K : Value → World → Prop) (M1 : (Nat → Value) → World → Prop) : (Nat → Value) → World → Prop := fun s w => LoopP (fun M2 s w => s4_p11_den K M1 M2 s w) s w
theorem s4_p12_ok (K : Value → World → Prop) (B1 : List Value → World → Prop) (s : Nat → Value) (w : World) (h : s4_p12 K B1 (s 0) (s 3) (s 4) (s 5) w) : Tr (s4_p12_den K (fun s w => B1 [s 0, s 3, s 4] w) s w) :=
  tr_loop (G := fun N' s w => s4_p11_den K (fun s w => B1 [s 0, s 3, s 4] w) N' s w) (F := s4_p12_F K B1) (sel := fun s => [s 0, s 3, s 4, s 5]) (s := s) (w := w) (p := s4_p12 K B1 (s 0) (s 3) (s 4) (s 5) w) (q := s4_p12_den K (fun s w => B1 [s 0, s 3, s 4] w) s w) (fun B s w h => s4_p11_ok K B1 B s w @h) (by kernel_rfl) (by kernel_rfl) @h
def s4_p13 (K : Value → World → Prop) (B1 : List Value → World → Prop) (t0 t3 t4 : Value) (w : World) : Prop :=
  ixs 20 t0 t4 (fun t21 w =>
  fd 4 t21 (fun t22 w =>
  fd 5 t22 (fun t23 w =>
  fd 0 t23 (fun t24 w =>
  ld1 t24 (fun t25 w =>
  lnT t25 (fun t26 w =>
  boI .add t3 t26 (fun t27 w =>
  boI .gtr t27 (.int .i64 65536) (fun t29 w =>
  ifb t29
  (K (.bool false) w)
  (ixs 20 t0 t4 (fun t33 w =>
  fd 4 t33 (fun t34 w =>
  fd 5 t34 (fun t35 w =>
  fd 1 t35 (fun t36 w =>
  ld1 t36 (fun t37 w =>
  lnT t37 (fun t38 w =>
  boI .add t27 t38 (fun t39 w =>
  boI .gtr t39 (.int .i64 65536) (fun t41 w =>
  ifb t41
  (K (.bool false) w)
  (ixs 20 t0 t4 (fun t45 w =>
  fd 4 t45 (fun t46 w =>
  fd 7 t46 (fun t47 w =>
  ld1 t47 (fun t48 w =>
  lnS t48 (fun t49 w =>
  boI .add t39 t49 (fun t50 w =>
  boI .gtr t50 (.int .i64 65536) (fun t52 w =>
  ifb t52
  (K (.bool false) w)
  (s4_p12 K B1 t0 t50 t4 (.int .i64 0) w)) w) w) w) w) w) w) w)) w) w) w) w) w) w) w) w)) w) w) w) w) w) w) w) w
def s4_p13_den (K : Value → World → Prop) (M1 : (Nat → Value) → World → Prop) : (Nat → Value) → World → Prop := denL Try.prog [(cd (Try.f4.body.getD .skip) [1, 1, 1, 0, 1, 0, 0, 1, 0, 0, 0]), (cd (Try.f4.body.getD .skip) [1, 1, 1, 0, 1, 0, 0, 1, 0, 0, 1, 0, 0]), (cd (Try.f4.body.getD .skip) [1, 1, 1, 0, 1, 0, 0, 1, 0, 0, 1, 0, 1]), (cd (Try.f4.body.getD .skip) [1, 1, 1, 0, 1, 0, 0, 1, 0, 0, 1, 1, 0]), (cd (Try.f4.body.getD .skip) [1, 1, 1, 0, 1, 0, 0, 1, 0, 0, 1, 1, 1, 0, 0]), (cd (Try.f4.body.getD .skip) [1, 1, 1, 0, 1, 0, 0, 1, 0, 0, 1, 1, 1, 0, 1]), (cd (Try.f4.body.getD .skip) [1, 1, 1, 0, 1, 0, 0, 1, 0, 0, 1, 1, 1, 1, 0]), (cd (Try.f4.body.getD .skip) [1, 1, 1, 0, 1, 0, 0, 1, 0, 0, 1, 1, 1, 1, 1, 0, 0]), (cd (Try.f4.body.getD .skip) [1, 1, 1, 0, 1, 0, 0, 1, 0, 0, 1, 1, 1, 1, 1, 0, 1]), (cd (Try.f4.body.getD .skip) [1, 1, 1, 0, 1, 0, 0, 1, 0, 0, 1, 1, 1, 1, 1, 1, 0, 0])] (s4_p12_den K M1) (fun i => (bif Nat.beq i 1 then (s4_p2_den K M1) else (bif Nat.beq i 0 then (s4_p1_den K) else (fun _ _ => False)))) (s4_R K)
theorem s4_p13_ok (K : Value → World → Prop) (B1 : List Value → World → Prop) (s : Nat → Value) (w : World) (h : s4_p13 K B1 (s 0) (s 3) (s 4) w) : Tr (s4_p13_den K (fun s w => B1 [s 0, s 3, s 4] w) s w) :=
  tr_simple (P := Try.prog) (codes := [(cd (Try.f4.body.getD .skip) [1, 1, 1, 0, 1, 0, 0, 1, 0, 0, 0]), (cd (Try.f4.body.getD .skip) [1, 1, 1, 0, 1, 0, 0, 1, 0, 0, 1, 0, 0]), (cd (Try.f4.body.getD .skip) [1, 1, 1, 0, 1, 0, 0, 1, 0, 0, 1, 0, 1]), (cd (Try.f4.body.getD .skip) [1, 1, 1, 0, 1, 0, 0, 1, 0, 0, 1, 1, 0]), (cd (Try.f4.body.getD .skip) [1, 1, 1, 0, 1, 0, 0, 1, 0, 0, 1, 1, 1, 0, 0]), (cd (Try.f4.body.getD .skip) [1, 1, 1, 0, 1, 0, 0, 1, 0, 0, 1, 1, 1, 0, 1]), (cd (Try.f4.body.getD .skip) [1, 1, 1, 0, 1, 0, 0, 1, 0, 0, 1, 1, 1, 1, 0]), (cd (Try.f4.body.getD .skip) [1, 1, 1, 0, 1, 0, 0, 1, 0, 0, 1, 1, 1, 1, 1, 0, 0]), (cd (Try.f4.body.getD .skip) [1, 1, 1, 0, 1, 0, 0, 1, 0, 0, 1, 1, 1, 1, 1, 0, 1]), (cd (Try.f4.body.getD .skip) [1, 1, 1, 0, 1, 0, 0, 1, 0, 0, 1, 1, 1, 1, 1, 1, 0, 0])]) (N := (fun s w => s4_p12 K B1 (s 0) (s 3) (s 4) (s 5) w)) (N' := (s4_p12_den K (fun s w => B1 [s 0, s 3, s 4] w))) (X := (fun i => (bif Nat.beq i 1 then (fun s w => s4_p2 K B1 (s 0) (s 3) (s 4) w) else (bif Nat.beq i 0 then (fun s w => s4_p1 K w) else (fun _ _ => False))))) (X' := (fun i => (bif Nat.beq i 1 then (s4_p2_den K (fun s w => B1 [s 0, s 3, s 4] w)) else (bif Nat.beq i 0 then (s4_p1_den K) else (fun _ _ => False))))) (R := s4_R K) (s := s) (w := w) (p := s4_p13 K B1 (s 0) (s 3) (s 4) w) (q := s4_p13_den K (fun s w => B1 [s 0, s 3, s 4] w) s w) (fun s w h => s4_p12_ok K B1 s w @h) (fun i => (tr_bif (fun s w h => s4_p2_ok K B1 s w @h) (tr_bif (fun s w h => s4_p1_ok K s w @h) tr_id))) (by kernel_rfl) (by kernel_rfl) @h
def s4_p14 (K : Value → World → Prop) (B1 : List Value → World → Prop) (t0 t3 t4 : Value) (w : World) : Prop :=
  lnS t0 (fun t14 w =>
  boI .lss t4 t14 (fun t15 w =>
  ifb t15
  (s4_p13 K B1 t0 t3 t4 w)
  (s4_p1 K w)) w) w
def s4_p14_den (K : Value → World → Prop) (M1 : (Nat → Value) → World → Prop) : (Nat → Value) → World → Prop := denL Try.prog [(cd (Try.f4.body.getD .skip) [1, 1, 1, 0, 1, 0, 0, 0, 0]), (cd (Try.f4.body.getD .skip) [1, 1, 1, 0, 1, 0, 0, 0, 1])] (s4_p13_den K M1) (fun i => (bif Nat.beq i 0 then (s4_p1_den K) else (fun _ _ => False))) (s4_R K)
theorem s4_p14_ok (K : Value → World → Prop) (B1 : List Value → World → Prop) (s : Nat → Value) (w : World) (h : s4_p14 K B1 (s 0) (s 3) (s 4) w) : Tr (s4_p14_den K (fun s w => B1 [s 0, s 3, s 4] w) s w) :=
  tr_simple (P := Try.prog) (codes := [(cd (Try.f4.body.getD .skip) [1, 1, 1, 0, 1, 0, 0, 0, 0]), (cd (Try.f4.body.getD .skip) [1, 1, 1, 0, 1, 0, 0, 0, 1])]) (N := (fun s w => s4_p13 K B1 (s 0) (s 3) (s 4) w)) (N' := (s4_p13_den K (fun s w => B1 [s 0, s 3, s 4] w))) (X := (fun i => (bif Nat.beq i 0 then (fun s w => s4_p1 K w) else (fun _ _ => False)))) (X' := (fun i => (bif Nat.beq i 0 then (s4_p1_den K) else (fun _ _ => False)))) (R := s4_R K) (s := s) (w := w) (p := s4_p14 K B1 (s 0) (s 3) (s 4) w) (q := s4_p14_den K (fun s w => B1 [s 0, s 3, s 4] w) s w) (fun s w h => s4_p13_ok K B1 s w @h) (fun i => (tr_bif (fun s w h => s4_p1_ok K s w @h) tr_id)) (by kernel_rfl) (by kernel_rfl) @h
def s4_p15_F (K : Value → World → Prop) (B1 : List Value → World → Prop) (l : List Value) (w : World) : Prop :=
  match l with
  | [t0, t3, t4] => s4_p14 K B1 t0 t3 t4 w
  | _ => False
theorem s4_p15_Fe {K : Value → World → Prop} {B1 : List Value → World → Prop} {t0 t3 t4 : Value} {w : World} : s4_p15_F K B1 [t0, t3, t4] w = s4_p14 K B1 t0 t3 t4 w := by kernel_rfl
def s4_p15 (K : Value → World → Prop) (t0 t3 t4 : Value) (w : World) : Prop :=
  LoopL (s4_p15_F K) [t0, t3, t4] w
def s4_p15_den (K : Value → World → Prop) : (Nat → Value) → World → Prop := fun s w => LoopP (fun M1 s w => s4_p14_den K M1 s w) s w
theorem s4_p15_ok (K : Value → World → Prop) (s : Nat → Value) (w : World) (h : s4_p15 K (s 0) (s 3) (s 4) w) : Tr (s4_p15_den K s w) :=
  tr_loop (G := fun N' s w => s4_p14_den K N' s w) (F := s4_p15_F K) (sel := fun s => [s 0, s 3, s 4]) (s := s) (w := w) (p := s4_p15 K (s 0) (s 3) (s 4) w) (q := s4_p15_den K s w) (fun B s w h => s4_p14_ok K B s w @h) (by kernel_rfl) (by kernel_rfl) @h
def s4_p16 (K : Value → World → Prop) (t0 : Value) (w : World) : Prop :=
  lnS t0 (fun t9 w =>
  boI .gtr t9 (.int .i64 65536) (fun t11 w =>
  ifb t11
  (K (.bool false) w)
  (s4_p15 K t0 t9 (.int .i64 0) w)) w) w
def s4_p16_den (K : Value → World → Prop) : (Nat → Value) → World → Prop := denL Try.prog [(cd (Try.f4.body.getD .skip) [0]), (cd (Try.f4.body.getD .skip) [1, 0]), (cd (Try.f4.body.getD .skip) [1, 1, 0, 0]), (cd (Try.f4.body.getD .skip) [1, 1, 0, 1]), (cd (Try.f4.body.getD .skip) [1, 1, 1, 0, 0])] (s4_p15_den K) (fun i => (fun _ _ => False)) (s4_R K)
theorem s4_p16_ok (K : Value → World → Prop) (s : Nat → Value) (w : World) (h : s4_p16 K (s 0) w) : Tr (s4_p16_den K s w) :=
  tr_simple (P := Try.prog) (codes := [(cd (Try.f4.body.getD .skip) [0]), (cd (Try.f4.body.getD .skip) [1, 0]), (cd (Try.f4.body.getD .skip) [1, 1, 0, 0]), (cd (Try.f4.body.getD .skip) [1, 1, 0, 1]), (cd (Try.f4.body.getD .skip) [1, 1, 1, 0, 0])]) (N := (fun s w => s4_p15 K (s 0) (s 3) (s 4) w)) (N' := (s4_p15_den K)) (X := (fun i => (fun _ _ => False))) (X' := (fun i => (fun _ _ => False))) (R := s4_R K) (s := s) (w := w) (p := s4_p16 K (s 0) w) (q := s4_p16_den K s w) (fun s w h => s4_p15_ok K s w @h) (fun i => tr_id) (by kernel_rfl) (by kernel_rfl) @h
/-- the call, from the text -/
theorem c4 (t0 : Value) {K : Value → World → Prop} {w : World} (h : s4_p16 K t0 w) : cl Try.prog 4 #[t0] K w :=
  calls_of_tr (c := (Try.f4.body.getD .skip)) (fn := Try.f4) (q := s4_p16_den K (st0 #[t0]) w) Try.func4 (by kernel_rfl) (by kernel_rfl) (Nat.le_of_ble_eq_true (by kernel_rfl)) (by kernel_rfl) (by kernel_rfl) (s4_p16_ok K (st0 #[t0]) w @h)

/-! ### function 5 : e2e.recordm.Values -/
def s5_R (K : Value → World → Prop) (s : Nat → Value) (w : World) : Prop := retv Try.prog s Try.f5.results.toList (fun vs => K (pack vs) w) w
def s5_p1 (K : Value → World → Prop) (t3 : Value) (w : World) : Prop :=
  K t3 w
def s5_p1_den (K : Value → World → Prop) : (Nat → Value) → World → Prop := denL Try.prog [(cd (Try.f5.body.getD .skip) [1, 1, 1, 0]), (cd (Try.f5.body.getD .skip) [1, 1, 1, 1])] (fun _ _ => False) (fun i => (fun _ _ => False)) (s5_R K)
theorem s5_p1_ok (K : Value → World → Prop) (s : Nat → Value) (w : World) (h : s5_p1 K (s 3) w) : Tr (s5_p1_den K s w) :=
  tr_simple (P := Try.prog) (codes := [(cd (Try.f5.body.getD .skip) [1, 1, 1, 0]), (cd (Try.f5.body.getD .skip) [1, 1, 1, 1])]) (N := (fun _ _ => False)) (N' := (fun _ _ => False)) (X := (fun i => (fun _ _ => False))) (X' := (fun i => (fun _ _ => False))) (R := s5_R K) (s := s) (w := w) (p := s5_p1 K (s 3) w) (q := s5_p1_den K s w) tr_id (fun i => tr_id) (by kernel_rfl) (by kernel_rfl) @h
def s5_p2 (K : Value → World → Prop) (B1 : List Value → World → Prop) (t3 t7 t8 t9 : Value) (w : World) : Prop :=
  boI .lss t9 t8 (fun t10 w =>
  ifb t10
  (ixs 9 t7 t9 (fun t11 w =>
  ldn 9 t11 (fun t12 w =>
  nw 52 #[(.string ⟨#[]⟩), (.int .u8 0), (.bool false), (.int .i64 0), (.int .i64 0), (.int .i32 0), (.string ⟨#[]⟩), (.int .u8 0), (.slice none 0 0)] (fun t5 w =>
  stn 9 t5 t12 (fun w =>
  fd 1 t5 (fun t14 w =>
  ldn 8 t14 (fun t15 w =>
  cl Try.prog 9 #[t15] (fun t16 w =>
  apq 49 [(.int .u8 0), (.bool false), (.int .i64 0), (.int .i64 0), (.int .i32 0), (.string ⟨#[]⟩), (.int .u8 0), (.slice none 0 0)] 80 t3 t16 (fun t17 w =>
  boI .add t9 (.int .i64 1) (fun t18 w =>
  B1 [t17, t7, t8, t18] w) w) w) w) w) w) w) w) w) w)
  (s5_p1 K t3 w)) w
def s5_p2_den (K : Value → World → Prop) (M1 : (Nat → Value) → World → Prop) : (Nat → Value) → World → Prop := denL Try.prog [(cd (Try.f5.body.getD .skip) [1, 1, 0, 1, 0, 0, 0]), (cd (Try.f5.body.getD .skip) [1, 1, 0, 1, 0, 0, 1, 0]), (cd (Try.f5.body.getD .skip) [1, 1, 0, 1, 0, 0, 1, 1, 0]), (cd (Try.f5.body.getD .skip) [1, 1, 0, 1, 0, 0, 1, 1, 1])] M1 (fun i => (bif Nat.beq i 0 then (s5_p1_den K) else (fun _ _ => False))) (s5_R K)
theorem s5_p2_ok (K : Value → World → Prop) (B1 : List Value → World → Prop) (s : Nat → Value) (w : World) (h : s5_p2 K B1 (s 3) (s 7) (s 8) (s 9) w) : Tr (s5_p2_den K (fun s w => B1 [s 3, s 7, s 8, s 9] w) s w) :=
  tr_simple (P := Try.prog) (codes := [(cd (Try.f5.body.getD .skip) [1, 1, 0, 1, 0, 0, 0]), (cd (Try.f5.body.getD .skip) [1, 1, 0, 1, 0, 0, 1, 0]), (cd (Try.f5.body.getD .skip) [1, 1, 0, 1, 0, 0, 1, 1, 0]), (cd (Try.f5.body.getD .skip) [1, 1, 0, 1, 0, 0, 1, 1, 1])]) (N := (fun s w => B1 [s 3, s 7, s 8, s 9] w)) (N' := (fun s w => B1 [s 3, s 7, s 8, s 9] w)) (X := (fun i => (bif Nat.beq i 0 then (fun s w => s5_p1 K (s 3) w) else (fun _ _ => False)))) (X' := (fun i => (bif Nat.beq i 0 then (s5_p1_den K) else (fun _ _ => False)))) (R := s5_R K) (s := s) (w := w) (p := s5_p2 K B1 (s 3) (s 7) (s 8) (s 9) w) (q := s5_p2_den K (fun s w => B1 [s 3, s 7, s 8, s 9] w) s w) tr_id (fun i => (tr_bif (fun s w h => s5_p1_ok K s w @h) tr_id)) (by kernel_rfl) (by kernel_rfl) @h
def s5_p3_F (K : Value → World → Prop) (B1 : List Value → World → Prop) (l : List Value) (w : World) : Prop :=
  match l with
  | [t3, t7, t8, t9] => s5_p2 K B1 t3 t7 t8 t9 w
  | _ => False
theorem s5_p3_Fe {K : Value → World → Prop} {B1 : List Value → World → Prop} {t3 t7 t8 t9 : Value} {w : World} : s5_p3_F K B1 [t3, t7, t8, t9] w = s5_p2 K B1 t3 t7 t8 t9 w := by kernel_rfl
def s5_p3 (K : Value → World → Prop) (t3 t7 t8 t9 : Value) (w : World) : Prop :=
  LoopL (s5_p3_F K) [t3, t7, t8, t9] w
def s5_p3_den (K : Value → World → Prop) : (Nat → Value) → World → Prop := fun s w => LoopP (fun M1 s w => s5_p2_den K M1 s w) s w
theorem s5_p3_ok (K : Value → World → Prop) (s : Nat → Value) (w : World) (h : s5_p3 K (s 3) (s 7) (s 8) (s 9) w) : Tr (s5_p3_den K s w) :=
  tr_loop (G := fun N' s w => s5_p2_den K N' s w) (F := s5_p3_F K) (sel := fun s => [s 3, s 7, s 8, s 9]) (s := s) (w := w) (p := s5_p3 K (s 3) (s 7) (s 8) (s 9) w) (q := s5_p3_den K s w) (fun B s w h => s5_p2_ok K B s w @h) (by kernel_rfl) (by kernel_rfl) @h
def s5_p4 (K : Value → World → Prop) (t0 : Value) (w : World) : Prop :=
  nw 36 (t0).cells (fun t1 w =>
  fd 13 t1 (fun t6 w =>
  ld1 t6 (fun t7 w =>
  lnS t7 (fun t8 w =>
  s5_p3 K (.slice none 0 0) t7 t8 (.int .i64 0) w) w) w) w) w
def s5_p4_den (K : Value → World → Prop) : (Nat → Value) → World → Prop := denL Try.prog [(cd (Try.f5.body.getD .skip) [0]), (cd (Try.f5.body.getD .skip) [1, 0]), (cd (Try.f5.body.getD .skip) [1, 1, 0, 0])] (s5_p3_den K) (fun i => (fun _ _ => False)) (s5_R K)
theorem s5_p4_ok (K : Value → World → Prop) (s : Nat → Value) (w : World) (h : s5_p4 K (s 0) w) : Tr (s5_p4_den K s w) :=
  tr_simple (P := Try.prog) (codes := [(cd (Try.f5.body.getD .skip) [0]), (cd (Try.f5.body.getD .skip) [1, 0]), (cd (Try.f5.body.getD .skip) [1, 1, 0, 0])]) (N := (fun s w => s5_p3 K (s 3) (s 7) (s 8) (s 9) w)) (N' := (s5_p3_den K)) (X := (fun i => (fun _ _ => False))) (X' := (fun i => (fun _ _ => False))) (R := s5_R K) (s := s) (w := w) (p := s5_p4 K (s 0) w) (q := s5_p4_den K s w) (fun s w h => s5_p3_ok K s w @h) (fun i => tr_id) (by kernel_rfl) (by kernel_rfl) @h
/-- the call, from the text -/
theorem c5 (t0 : Value) {K : Value → World → Prop} {w : World} (h : s5_p4 K t0 w) : cl Try.prog 5 #[t0] K w :=
  calls_of_tr (c := (Try.f5.body.getD .skip)) (fn := Try.f5) (q := s5_p4_den K (st0 #[t0]) w) Try.func5 (by kernel_rfl) (by kernel_rfl) (Nat.le_of_ble_eq_true (by kernel_rfl)) (by kernel_rfl) (by kernel_rfl) (s5_p4_ok K (st0 #[t0]) w @h)

/-! ### function 6 : e2e.record.EqualValues -/
def s6_R (K : Value → World → Prop) (s : Nat → Value) (w : World) : Prop := retv Try.prog s Try.f6.results.toList (fun vs => K (pack vs) w) w
def s6_p1 (K : Value → World → Prop) (w : World) : Prop :=
  K (.bool true) w
def s6_p1_den (K : Value → World → Prop) : (Nat → Value) → World → Prop := denL Try.prog [(cd (Try.f6.body.getD .skip) [1, 1, 1, 0]), (cd (Try.f6.body.getD .skip) [1, 1, 1, 1])] (fun _ _ => False) (fun i => (fun _ _ => False)) (s6_R K)
theorem s6_p1_ok (K : Value → World → Prop) (s : Nat → Value) (w : World) (h : s6_p1 K w) : Tr (s6_p1_den K s w) :=
  tr_simple (P := Try.prog) (codes := [(cd (Try.f6.body.getD .skip) [1, 1, 1, 0]), (cd (Try.f6.body.getD .skip) [1, 1, 1, 1])]) (N := (fun _ _ => False)) (N' := (fun _ _ => False)) (X := (fun i => (fun _ _ => False))) (X' := (fun i => (fun _ _ => False))) (R := s6_R K) (s := s) (w := w) (p := s6_p1 K w) (q := s6_p1_den K s w) tr_id (fun i => tr_id) (by kernel_rfl) (by kernel_rfl) @h
def s6_p2 (K : Value → World → Prop) (B1 : List Value → World → Prop) (t0 t1 t87 t88 : Value) (w : World) : Prop :=
  boI .add t88 (.int .i64 1) (fun t105 w =>
  B1 [t0, t1, t87, t105] w) w
def s6_p2_den (K : Value → World → Prop) (M1 : (Nat → Value) → World → Prop) : (Nat → Value) → World → Prop := denL Try.prog [(cd (Try.f6.body.getD .skip) [1, 1, 0, 1, 0, 0, 1, 1, 1])] M1 (fun i => (bif Nat.beq i 0 then (s6_p1_den K) else (fun _ _ => False))) (s6_R K)
theorem s6_p2_ok (K : Value → World → Prop) (B1 : List Value → World → Prop) (s : Nat → Value) (w : World) (h : s6_p2 K B1 (s 0) (s 1) (s 87) (s 88) w) : Tr (s6_p2_den K (fun s w => B1 [s 0, s 1, s 87, s 88] w) s w) :=
  tr_simple (P := Try.prog) (codes := [(cd (Try.f6.body.getD .skip) [1, 1, 0, 1, 0, 0, 1, 1, 1])]) (N := (fun s w => B1 [s 0, s 1, s 87, s 88] w)) (N' := (fun s w => B1 [s 0, s 1, s 87, s 88] w)) (X := (fun i => (bif Nat.beq i 0 then (fun s w => s6_p1 K w) else (fun _ _ => False)))) (X' := (fun i => (bif Nat.beq i 0 then (s6_p1_den K) else (fun _ _ => False)))) (R := s6_R K) (s := s) (w := w) (p := s6_p2 K B1 (s 0) (s 1) (s 87) (s 88) w) (q := s6_p2_den K (fun s w => B1 [s 0, s 1, s 87, s 88] w) s w) tr_id (fun i => (tr_bif (fun s w h => s6_p1_ok K s w @h) tr_id)) (by kernel_rfl) (by kernel_rfl) @h
def s6_p3 (K : Value → World → Prop) (B1 : List Value → World → Prop) (t0 t1 t87 t88 t104 : Value) (w : World) : Prop :=
  ifb t104
  (K (.bool false) w)
  (s6_p2 K B1 t0 t1 t87 t88 w)
def s6_p3_den (K : Value → World → Prop) (M1 : (Nat → Value) → World → Prop) : (Nat → Value) → World → Prop := denL Try.prog [(cd (Try.f6.body.getD .skip) [1, 1, 0, 1, 0, 0, 1, 1, 0, 0, 1, 1])] (s6_p2_den K M1) (fun i => (bif Nat.beq i 1 then (s6_p2_den K M1) else (bif Nat.beq i 0 then (s6_p1_den K) else (fun _ _ => False)))) (s6_R K)
theorem s6_p3_ok (K : Value → World → Prop) (B1 : List Value → World → Prop) (s : Nat → Value) (w : World) (h : s6_p3 K B1 (s 0) (s 1) (s 87) (s 88) (s 104) w) : Tr (s6_p3_den K (fun s w => B1 [s 0, s 1, s 87, s 88] w) s w) :=
  tr_simple (P := Try.prog) (codes := [(cd (Try.f6.body.getD .skip) [1, 1, 0, 1, 0, 0, 1, 1, 0, 0, 1, 1])]) (N := (fun s w => s6_p2 K B1 (s 0) (s 1) (s 87) (s 88) w)) (N' := (s6_p2_den K (fun s w => B1 [s 0, s 1, s 87, s 88] w))) (X := (fun i => (bif Nat.beq i 1 then (fun s w => s6_p2 K B1 (s 0) (s 1) (s 87) (s 88) w) else (bif Nat.beq i 0 then (fun s w => s6_p1 K w) else (fun _ _ => False))))) (X' := (fun i => (bif Nat.beq i 1 then (s6_p2_den K (fun s w => B1 [s 0, s 1, s 87, s 88] w)) else (bif Nat.beq i 0 then (s6_p1_den K) else (fun _ _ => False))))) (R := s6_R K) (s := s) (w := w) (p := s6_p3 K B1 (s 0) (s 1) (s 87) (s 88) (s 104) w) (q := s6_p3_den K (fun s w => B1 [s 0, s 1, s 87, s 88] w) s w) (fun s w h => s6_p2_ok K B1 s w @h) (fun i => (tr_bif (fun s w h => s6_p2_ok K B1 s w @h) (tr_bif (fun s w h => s6_p1_ok K s w @h) tr_id))) (by kernel_rfl) (by kernel_rfl) @h
def s6_p4_d (K : Value → World → Prop) (B1 : List Value → World → Prop) (t0 t1 t5 t87 t88 : Value) (w0 w : World) : Prop :=
  nck t0 (fun t92 _ =>
  fd 7 t92 (fun t93 _ =>
  ld1 t93 (fun t94 _ =>
  ixs 8 t94 t5 (fun t96 _ =>
  nck t1 (fun t98 _ =>
  fd 7 t98 (fun t99 _ =>
  ld1 t99 (fun t100 _ =>
  ixs 8 t100 t5 (fun t102 _ =>
  cl Try.prog 6 #[t96, t102] (fun t103 w =>
  un .not t103 (fun t104 w =>
  s6_p3 K B1 t0 t1 t87 t88 t104 w) w) w) w0) w0) w0) w0) w0) w0) w0) w0
def s6_p4 (K : Value → World → Prop) (B1 : List Value → World → Prop) (t0 t1 t5 t87 t88 : Value) (w : World) : Prop := s6_p4_d K B1 t0 t1 t5 t87 t88 (drw w) (drw w)
def s6_p4_den (K : Value → World → Prop) (M1 : (Nat → Value) → World → Prop) : (Nat → Value) → World → Prop := denL Try.prog [(cd (Try.f6.body.getD .skip) [1, 1, 0, 1, 0, 0, 1, 1, 0, 0, 1, 0])] (s6_p3_den K M1) (fun i => (bif Nat.beq i 1 then (s6_p2_den K M1) else (bif Nat.beq i 0 then (s6_p1_den K) else (fun _ _ => False)))) (s6_R K)
theorem s6_p4_ok (K : Value → World → Prop) (B1 : List Value → World → Prop) (s : Nat → Value) (w : World) (h : s6_p4 K B1 (s 0) (s 1) (s 5) (s 87) (s 88) w) : Tr (s6_p4_den K (fun s w => B1 [s 0, s 1, s 87, s 88] w) s w) :=
  tr_draw (P := Try.prog) (ops := (ro (cd (Try.f6.body.getD .skip) [1, 1, 0, 1, 0, 0, 1, 1, 0, 0, 1, 0]))) (ms := [0, 1, 3, 7, 0, 31, 0, 64, 192, 448, 0, 1984, 4095, 8191]) (cs := [0, 1, 2, 3, 4, 5, 6, 7, 8, 9, 10, 11]) (N := (fun s w => s6_p3 K B1 (s 0) (s 1) (s 87) (s 88) (s 104) w)) (N' := (s6_p3_den K (fun s w => B1 [s 0, s 1, s 87, s 88] w))) (s := s) (w := w) (p := s6_p4 K B1 (s 0) (s 1) (s 5) (s 87) (s 88) w) (q := s6_p4_den K (fun s w => B1 [s 0, s 1, s 87, s 88] w) s w) (by kernel_rfl) (by kernel_rfl) (fun s w h => s6_p3_ok K B1 s w @h) (by kernel_rfl) (by kernel_rfl) @h
def s6_p5 (K : Value → World → Prop) (B1 : List Value → World → Prop) (t0 t1 t87 t88 : Value) (w : World) : Prop :=
  s6_p4 K B1 t0 t1 t88 t87 t88 w
def s6_p5_den (K : Value → World → Prop) (M1 : (Nat → Value) → World → Prop) : (Nat → Value) → World → Prop := denL Try.prog [(cd (Try.f6.body.getD .skip) [1, 1, 0, 1, 0, 0, 1, 1, 0, 0, 0])] (s6_p4_den K M1) (fun i => (bif Nat.beq i 1 then (s6_p2_den K M1) else (bif Nat.beq i 0 then (s6_p1_den K) else (fun _ _ => False)))) (s6_R K)
theorem s6_p5_ok (K : Value → World → Prop) (B1 : List Value → World → Prop) (s : Nat → Value) (w : World) (h : s6_p5 K B1 (s 0) (s 1) (s 87) (s 88) w) : Tr (s6_p5_den K (fun s w => B1 [s 0, s 1, s 87, s 88] w) s w) :=
  tr_simple (P := Try.prog) (codes := [(cd (Try.f6.body.getD .skip) [1, 1, 0, 1, 0, 0, 1, 1, 0, 0, 0])]) (N := (fun s w => s6_p4 K B1 (s 0) (s 1) (s 5) (s 87) (s 88) w)) (N' := (s6_p4_den K (fun s w => B1 [s 0, s 1, s 87, s 88] w))) (X := (fun i => (bif Nat.beq i 1 then (fun s w => s6_p2 K B1 (s 0) (s 1) (s 87) (s 88) w) else (bif Nat.beq i 0 then (fun s w => s6_p1 K w) else (fun _ _ => False))))) (X' := (fun i => (bif Nat.beq i 1 then (s6_p2_den K (fun s w => B1 [s 0, s 1, s 87, s 88] w)) else (bif Nat.beq i 0 then (s6_p1_den K) else (fun _ _ => False))))) (R := s6_R K) (s := s) (w := w) (p := s6_p5 K B1 (s 0) (s 1) (s 87) (s 88) w) (q := s6_p5_den K (fun s w => B1 [s 0, s 1, s 87, s 88] w) s w) (fun s w h => s6_p4_ok K B1 s w @h) (fun i => (tr_bif (fun s w h => s6_p2_ok K B1 s w @h) (tr_bif (fun s w h => s6_p1_ok K s w @h) tr_id))) (by kernel_rfl) (by kernel_rfl) @h
def s6_p6 (K : Value → World → Prop) (B1 : List Value → World → Prop) (t0 t1 t87 t88 : Value) (w : World) : Prop :=
  boI .lss t88 t87 (fun t89 w =>
  ifb t89
  (s6_p5 K B1 t0 t1 t87 t88 w)
  (s6_p1 K w)) w
def s6_p6_den (K : Value → World → Prop) (M1 : (Nat → Value) → World → Prop) : (Nat → Value) → World → Prop := denL Try.prog [(cd (Try.f6.body.getD .skip) [1, 1, 0, 1, 0, 0, 0]), (cd (Try.f6.body.getD .skip) [1, 1, 0, 1, 0, 0, 1, 0])] (s6_p5_den K M1) (fun i => (bif Nat.beq i 0 then (s6_p1_den K) else (fun _ _ => False))) (s6_R K)
theorem s6_p6_ok (K : Value → World → Prop) (B1 : List Value → World → Prop) (s : Nat → Value) (w : World) (h : s6_p6 K B1 (s 0) (s 1) (s 87) (s 88) w) : Tr (s6_p6_den K (fun s w => B1 [s 0, s 1, s 87, s 88] w) s w) :=
  tr_simple (P := Try.prog) (codes := [(cd (Try.f6.body.getD .skip) [1, 1, 0, 1, 0, 0, 0]), (cd (Try.f6.body.getD .skip) [1, 1, 0, 1, 0, 0, 1, 0])]) (N := (fun s w => s6_p5 K B1 (s 0) (s 1) (s 87) (s 88) w)) (N' := (s6_p5_den K (fun s w => B1 [s 0, s 1, s 87, s 88] w))) (X := (fun i => (bif Nat.beq i 0 then (fun s w => s6_p1 K w) else (fun _ _ => False)))) (X' := (fun i => (bif Nat.beq i 0 then (s6_p1_den K) else (fun _ _ => False)))) (R := s6_R K) (s := s) (w := w) (p := s6_p6 K B1 (s 0) (s 1) (s 87) (s 88) w) (q := s6_p6_den K (fun s w => B1 [s 0, s 1, s 87, s 88] w) s w) (fun s w h => s6_p5_ok K B1 s w @h) (fun i => (tr_bif (fun s w h => s6_p1_ok K s w @h) tr_id)) (by kernel_rfl) (by kernel_rfl) @h
def s6_p7_F (K : Value → World → Prop) (B1 : List Value → World → Prop) (l : List Value) (w : World) : Prop :=
  match l with
  | [t0, t1, t87, t88] => s6_p6 K B1 t0 t1 t87 t88 w
  | _ => False
theorem s6_p7_Fe {K : Value → World → Prop} {B1 : List Value → World → Prop} {t0 t1 t87 t88 : Value} {w : World} : s6_p7_F K B1 [t0, t1, t87, t88] w = s6_p6 K B1 t0 t1 t87 t88 w := by kernel_rfl
def s6_p7 (K : Value → World → Prop) (t0 t1 t87 t88 : Value) (w : World) : Prop :=
  LoopL (s6_p7_F K) [t0, t1, t87, t88] w
def s6_p7_den (K : Value → World → Prop) : (Nat → Value) → World → Prop := fun s w => LoopP (fun M1 s w => s6_p6_den K M1 s w) s w
theorem s6_p7_ok (K : Value → World → Prop) (s : Nat → Value) (w : World) (h : s6_p7 K (s 0) (s 1) (s 87) (s 88) w) : Tr (s6_p7_den K s w) :=
  tr_loop (G := fun N' s w => s6_p6_den K N' s w) (F := s6_p7_F K) (sel := fun s => [s 0, s 1, s 87, s 88]) (s := s) (w := w) (p := s6_p7 K (s 0) (s 1) (s 87) (s 88) w) (q := s6_p7_den K s w) (fun B s w h => s6_p6_ok K B s w @h) (by kernel_rfl) (by kernel_rfl) @h
def s6_p8 (K : Value → World → Prop) (t0 t1 t82 : Value) (w : World) : Prop :=
  ifb t82
  (K (.bool false) w)
  (nck t0 (fun t84 w =>
  fd 7 t84 (fun t85 w =>
  ld1 t85 (fun t86 w =>
  lnS t86 (fun t87 w =>
  s6_p7 K t0 t1 t87 (.int .i64 0) w) w) w) w) w)
def s6_p8_den (K : Value → World → Prop) : (Nat → Value) → World → Prop := denL Try.prog [(cd (Try.f6.body.getD .skip) [1, 0, 1]), (cd (Try.f6.body.getD .skip) [1, 1, 0, 0])] (s6_p7_den K) (fun i => (fun _ _ => False)) (s6_R K)
theorem s6_p8_ok (K : Value → World → Prop) (s : Nat → Value) (w : World) (h : s6_p8 K (s 0) (s 1) (s 82) w) : Tr (s6_p8_den K s w) :=
  tr_simple (P := Try.prog) (codes := [(cd (Try.f6.body.getD .skip) [1, 0, 1]), (cd (Try.f6.body.getD .skip) [1, 1, 0, 0])]) (N := (fun s w => s6_p7 K (s 0) (s 1) (s 87) (s 88) w)) (N' := (s6_p7_den K)) (X := (fun i => (fun _ _ => False))) (X' := (fun i => (fun _ _ => False))) (R := s6_R K) (s := s) (w := w) (p := s6_p8 K (s 0) (s 1) (s 82) w) (q := s6_p8_den K s w) (fun s w h => s6_p7_ok K s w @h) (fun i => tr_id) (by kernel_rfl) (by kernel_rfl) @h
def s6_p9_d (K : Value → World → Prop) (t0 t1 : Value) (w0 w : World) : Prop :=
  nck t0 (fun t7 _ =>
  fd 0 t7 (fun t8 _ =>
  ld1 t8 (fun t9 _ =>
  nck t1 (fun t11 _ =>
  fd 0 t11 (fun t12 _ =>
  ld1 t12 (fun t13 _ =>
  boI .neq t9 t13 (fun t14 _ =>
  gd t14 false (fun K w => K t0 w) (fun t16 _ =>
  gd t14 false (nck t16) (fun t17 _ =>
  gd t14 false (fd 1 t17) (fun t18 _ =>
  gd t14 false (ld1 t18) (fun t19 _ =>
  gd t14 false (fun K w => K t1 w) (fun t20 _ =>
  gd t14 false (nck t20) (fun t21 _ =>
  gd t14 false (fd 1 t21) (fun t22 _ =>
  gd t14 false (ld1 t22) (fun t23 _ =>
  gd t14 false (boB .neq t19 t23) (fun t24 _ =>
  pk t14 (.bool true) t24 (fun t25 _ =>
  gd t25 false (fun K w => K t0 w) (fun t27 _ =>
  gd t25 false (nck t27) (fun t28 _ =>
  gd t25 false (fd 2 t28) (fun t29 _ =>
  gd t25 false (ld1 t29) (fun t30 _ =>
  gd t25 false (fun K w => K t1 w) (fun t31 _ =>
  gd t25 false (nck t31) (fun t32 _ =>
  gd t25 false (fd 2 t32) (fun t33 _ =>
  gd t25 false (ld1 t33) (fun t34 _ =>
  gd t25 false (boI .neq t30 t34) (fun t35 _ =>
  pk t25 (.bool true) t35 (fun t36 _ =>
  gd t36 false (fun K w => K t0 w) (fun t38 _ =>
  gd t36 false (nck t38) (fun t39 _ =>
  gd t36 false (fd 3 t39) (fun t40 _ =>
  gd t36 false (ldn 2 t40) (fun t41 _ =>
  gd t36 false (fun K w => K t1 w) (fun t42 _ =>
  gd t36 false (nck t42) (fun t43 _ =>
  gd t36 false (fd 3 t43) (fun t44 _ =>
  gd t36 false (ldn 2 t44) (fun t45 _ =>
  qv (gd t36 false (bor Try.prog .neq 47 (.tmp 41) (.tmp 45) t41 t45)) w0 (fun t46 =>
  pk t36 (.bool true) t46 (fun t47 _ =>
  gd t47 false (fun K w => K t0 w) (fun t49 _ =>
  gd t47 false (nck t49) (fun t50 _ =>
  gd t47 false (fd 5 t50) (fun t51 _ =>
  gd t47 false (ld1 t51) (fun t52 _ =>
  gd t47 false (fun K w => K t1 w) (fun t53 _ =>
  gd t47 false (nck t53) (fun t54 _ =>
  gd t47 false (fd 5 t54) (fun t55 _ =>
  gd t47 false (ld1 t55) (fun t56 _ =>
  gd t47 false (boS .neq t52 t56) (fun t57 _ =>
  pk t47 (.bool true) t57 (fun t58 _ =>
  gd t58 false (fun K w => K t0 w) (fun t60 _ =>
  gd t58 false (nck t60) (fun t61 _ =>
  gd t58 false (fd 6 t61) (fun t62 _ =>
  gd t58 false (ld1 t62) (fun t63 _ =>
  gd t58 false (fun K w => K t1 w) (fun t64 _ =>
  gd t58 false (nck t64) (fun t65 _ =>
  gd t58 false (fd 6 t65) (fun t66 _ =>
  gd t58 false (ld1 t66) (fun t67 _ =>
  gd t58 false (boI .neq t63 t67) (fun t68 _ =>
  pk t58 (.bool true) t68 (fun t69 _ =>
  gd t69 false (fun K w => K t0 w) (fun t71 _ =>
  gd t69 false (nck t71) (fun t72 _ =>
  gd t69 false (fd 7 t72) (fun t73 _ =>
  gd t69 false (ld1 t73) (fun t74 _ =>
  gd t69 false (lnS t74) (fun t75 _ =>
  gd t69 false (fun K w => K t1 w) (fun t76 _ =>
  gd t69 false (nck t76) (fun t77 _ =>
  gd t69 false (fd 7 t77) (fun t78 _ =>
  gd t69 false (ld1 t78) (fun t79 _ =>
  gd t69 false (lnS t79) (fun t80 _ =>
  gd t69 false (boI .neq t75 t80) (fun t81 _ =>
  pk t69 (.bool true) t81 (fun t82 _ =>
  s6_p8 K t0 t1 t82 w) w0) w0) w0) w0) w0) w0) w0) w0) w0) w0) w0) w0) w0) w0) w0) w0) w0) w0) w0) w0) w0) w0) w0) w0) w0) w0) w0) w0) w0) w0) w0) w0) w0)) w0) w0) w0) w0) w0) w0) w0) w0) w0) w0) w0) w0) w0) w0) w0) w0) w0) w0) w0) w0) w0) w0) w0) w0) w0) w0) w0) w0) w0) w0) w0) w0) w0) w0) w0
def s6_p9 (K : Value → World → Prop) (t0 t1 : Value) (w : World) : Prop := s6_p9_d K t0 t1 (drw w) (drw w)
def s6_p9_den (K : Value → World → Prop) : (Nat → Value) → World → Prop := denL Try.prog [(cd (Try.f6.body.getD .skip) [1, 0, 0])] (s6_p8_den K) (fun i => (fun _ _ => False)) (s6_R K)
theorem s6_p9_ok (K : Value → World → Prop) (s : Nat → Value) (w : World) (h : s6_p9 K (s 0) (s 1) w) : Tr (s6_p9_den K s w) :=
  tr_draw (P := Try.prog) (ops := (ro (cd (Try.f6.body.getD .skip) [1, 0, 0]))) (ms := [0, 1, 3, 7, 0, 16, 48, 112, 255, 511, 1023, 2047, 4095, 8191, 1023, 17407, 50175, 115711, 262143, 524287, 1048575, 2097151, 4194303, 8388607, 16777215, 2097151, 35651583, 102760447, 236978175, 536870911, 1073741823, 2147483647, 4294967295, 8589934591, 17179869183, 34359738367, 4294967295, 73014444031, 210453397503, 485331304447, 1099511627775, 2199023255551, 4398046511103, 8796093022207, 17592186044415, 35184372088831, 70368744177663, 8796093022207, 149533581377535, 431008558088191, 993958511509503, 2251799813685247, 4503599627370495, 9007199254740991, 18014398509481983, 36028797018963967, 72057594037927935, 144115188075855871, 18014398509481983, 306244774661193727, 882705526964617215, 2035627031571464191, 4611686018427387903, 9223372036854775807, 18446744073709551615, 36893488147419103231, 73786976294838206463, 147573952589676412927, 295147905179352825855, 590295810358705651711, 36893488147419103231, 1217485108864830406655, 3578668350299653013503, 8301034833169298227199, 17745767798908588654591, 37778931862957161709567, 75557863725914323419135]) (cs := [0, 1, 2, 3, 4, 5, 6, 7, 8, 9, 10, 11, 12, 13, 14, 15, 16, 17, 18, 19, 20, 21, 22, 23, 24, 25, 26, 27, 28, 29, 30, 31, 32, 33, 34, 35, 36, 37, 38, 39, 40, 41, 42, 43, 44, 45, 46, 47, 48, 49, 50, 51, 52, 53, 54, 55, 56, 57, 58, 59, 60, 61, 62, 63, 64, 65, 66, 67, 68, 69, 70, 71, 72, 73, 74, 75, 76]) (N := (fun s w => s6_p8 K (s 0) (s 1) (s 82) w)) (N' := (s6_p8_den K)) (s := s) (w := w) (p := s6_p9 K (s 0) (s 1) w) (q := s6_p9_den K s w) (by kernel_rfl) (by kernel_rfl) (fun s w h => s6_p8_ok K s w @h) (by kernel_rfl) (by kernel_rfl) @h
def s6_p10 (K : Value → World → Prop) (t0 t1 : Value) (w : World) : Prop :=
  s6_p9 K t0 t1 w
def s6_p10_den (K : Value → World → Prop) : (Nat → Value) → World → Prop := denL Try.prog [(cd (Try.f6.body.getD .skip) [0])] (s6_p9_den K) (fun i => (fun _ _ => False)) (s6_R K)
theorem s6_p10_ok (K : Value → World → Prop) (s : Nat → Value) (w : World) (h : s6_p10 K (s 0) (s 1) w) : Tr (s6_p10_den K s w) :=
  tr_simple (P := Try.prog) (codes := [(cd (Try.f6.body.getD .skip) [0])]) (N := (fun s w => s6_p9 K (s 0) (s 1) w)) (N' := (s6_p9_den K)) (X := (fun i => (fun _ _ => False))) (X' := (fun i => (fun _ _ => False))) (R := s6_R K) (s := s) (w := w) (p := s6_p10 K (s 0) (s 1) w) (q := s6_p10_den K s w) (fun s w h => s6_p9_ok K s w @h) (fun i => tr_id) (by kernel_rfl) (by kernel_rfl) @h
/-- the call, from the text -/
theorem c6 (t0 t1 : Value) {K : Value → World → Prop} {w : World} (h : s6_p10 K t0 t1 w) : cl Try.prog 6 #[t0, t1] K w :=
  calls_of_tr (c := (Try.f6.body.getD .skip)) (fn := Try.f6) (q := s6_p10_den K (st0 #[t0, t1]) w) Try.func6 (by kernel_rfl) (by kernel_rfl) (Nat.le_of_ble_eq_true (by kernel_rfl)) (by kernel_rfl) (by kernel_rfl) (s6_p10_ok K (st0 #[t0, t1]) w @h)

/-! ### function 7 : e2e.recordm.SameValue -/
def s7_R (K : Value → World → Prop) (s : Nat → Value) (w : World) : Prop := retv Try.prog s Try.f7.results.toList (fun vs => K (pack vs) w) w
def s7_p1 (K : Value → World → Prop) (w : World) : Prop :=
  K (.bool true) w
def s7_p1_den (K : Value → World → Prop) : (Nat → Value) → World → Prop := denL Try.prog [(cd (Try.f7.body.getD .skip) [1, 1, 1, 0]), (cd (Try.f7.body.getD .skip) [1, 1, 1, 1])] (fun _ _ => False) (fun i => (fun _ _ => False)) (s7_R K)
theorem s7_p1_ok (K : Value → World → Prop) (s : Nat → Value) (w : World) (h : s7_p1 K w) : Tr (s7_p1_den K s w) :=
  tr_simple (P := Try.prog) (codes := [(cd (Try.f7.body.getD .skip) [1, 1, 1, 0]), (cd (Try.f7.body.getD .skip) [1, 1, 1, 1])]) (N := (fun _ _ => False)) (N' := (fun _ _ => False)) (X := (fun i => (fun _ _ => False))) (X' := (fun i => (fun _ _ => False))) (R := s7_R K) (s := s) (w := w) (p := s7_p1 K w) (q := s7_p1_den K s w) tr_id (fun i => tr_id) (by kernel_rfl) (by kernel_rfl) @h
def s7_p2 (K : Value → World → Prop) (B1 : List Value → World → Prop) (t2 t3 t57 t58 : Value) (w : World) : Prop :=
  boI .add t58 (.int .i64 1) (fun t73 w =>
  B1 [t2, t3, t57, t73] w) w
def s7_p2_den (K : Value → World → Prop) (M1 : (Nat → Value) → World → Prop) : (Nat → Value) → World → Prop := denL Try.prog [(cd (Try.f7.body.getD .skip) [1, 1, 0, 1, 0, 0, 1, 1, 1])] M1 (fun i => (bif Nat.beq i 0 then (s7_p1_den K) else (fun _ _ => False))) (s7_R K)
theorem s7_p2_ok (K : Value → World → Prop) (B1 : List Value → World → Prop) (s : Nat → Value) (w : World) (h : s7_p2 K B1 (s 2) (s 3) (s 57) (s 58) w) : Tr (s7_p2_den K (fun s w => B1 [s 2, s 3, s 57, s 58] w) s w) :=
  tr_simple (P := Try.prog) (codes := [(cd (Try.f7.body.getD .skip) [1, 1, 0, 1, 0, 0, 1, 1, 1])]) (N := (fun s w => B1 [s 2, s 3, s 57, s 58] w)) (N' := (fun s w => B1 [s 2, s 3, s 57, s 58] w)) (X := (fun i => (bif Nat.beq i 0 then (fun s w => s7_p1 K w) else (fun _ _ => False)))) (X' := (fun i => (bif Nat.beq i 0 then (s7_p1_den K) else (fun _ _ => False)))) (R := s7_R K) (s := s) (w := w) (p := s7_p2 K B1 (s 2) (s 3) (s 57) (s 58) w) (q := s7_p2_den K (fun s w => B1 [s 2, s 3, s 57, s 58] w) s w) tr_id (fun i => (tr_bif (fun s w h => s7_p1_ok K s w @h) tr_id)) (by kernel_rfl) (by kernel_rfl) @h
def s7_p3 (K : Value → World → Prop) (B1 : List Value → World → Prop) (t2 t3 t57 t58 t72 : Value) (w : World) : Prop :=
  ifb t72
  (K (.bool false) w)
  (s7_p2 K B1 t2 t3 t57 t58 w)
def s7_p3_den (K : Value → World → Prop) (M1 : (Nat → Value) → World → Prop) : (Nat → Value) → World → Prop := denL Try.prog [(cd (Try.f7.body.getD .skip) [1, 1, 0, 1, 0, 0, 1, 1, 0, 0, 1, 1])] (s7_p2_den K M1) (fun i => (bif Nat.beq i 1 then (s7_p2_den K M1) else (bif Nat.beq i 0 then (s7_p1_den K) else (fun _ _ => False)))) (s7_R K)
theorem s7_p3_ok (K : Value → World → Prop) (B1 : List Value → World → Prop) (s : Nat → Value) (w : World) (h : s7_p3 K B1 (s 2) (s 3) (s 57) (s 58) (s 72) w) : Tr (s7_p3_den K (fun s w => B1 [s 2, s 3, s 57, s 58] w) s w) :=
  tr_simple (P := Try.prog) (codes := [(cd (Try.f7.body.getD .skip) [1, 1, 0, 1, 0, 0, 1, 1, 0, 0, 1, 1])]) (N := (fun s w => s7_p2 K B1 (s 2) (s 3) (s 57) (s 58) w)) (N' := (s7_p2_den K (fun s w => B1 [s 2, s 3, s 57, s 58] w))) (X := (fun i => (bif Nat.beq i 1 then (fun s w => s7_p2 K B1 (s 2) (s 3) (s 57) (s 58) w) else (bif Nat.beq i 0 then (fun s w => s7_p1 K w) else (fun _ _ => False))))) (X' := (fun i => (bif Nat.beq i 1 then (s7_p2_den K (fun s w => B1 [s 2, s 3, s 57, s 58] w)) else (bif Nat.beq i 0 then (s7_p1_den K) else (fun _ _ => False))))) (R := s7_R K) (s := s) (w := w) (p := s7_p3 K B1 (s 2) (s 3) (s 57) (s 58) (s 72) w) (q := s7_p3_den K (fun s w => B1 [s 2, s 3, s 57, s 58] w) s w) (fun s w h => s7_p2_ok K B1 s w @h) (fun i => (tr_bif (fun s w h => s7_p2_ok K B1 s w @h) (tr_bif (fun s w h => s7_p1_ok K s w @h) tr_id))) (by kernel_rfl) (by kernel_rfl) @h
def s7_p4_d (K : Value → World → Prop) (B1 : List Value → World → Prop) (t2 t3 t5 t57 t58 : Value) (w0 w : World) : Prop :=
  fd 7 t2 (fun t61 _ =>
  ld1 t61 (fun t62 _ =>
  ixs 8 t62 t5 (fun t64 _ =>
  ldn 8 t64 (fun t65 _ =>
  fd 7 t3 (fun t66 _ =>
  ld1 t66 (fun t67 _ =>
  ixs 8 t67 t5 (fun t69 _ =>
  ldn 8 t69 (fun t70 _ =>
  cl Try.prog 7 #[t65, t70] (fun t71 w =>
  un .not t71 (fun t72 w =>
  s7_p3 K B1 t2 t3 t57 t58 t72 w) w) w) w0) w0) w0) w0) w0) w0) w0) w0
def s7_p4 (K : Value → World → Prop) (B1 : List Value → World → Prop) (t2 t3 t5 t57 t58 : Value) (w : World) : Prop := s7_p4_d K B1 t2 t3 t5 t57 t58 (drw w) (drw w)
def s7_p4_den (K : Value → World → Prop) (M1 : (Nat → Value) → World → Prop) : (Nat → Value) → World → Prop := denL Try.prog [(cd (Try.f7.body.getD .skip) [1, 1, 0, 1, 0, 0, 1, 1, 0, 0, 1, 0])] (s7_p3_den K M1) (fun i => (bif Nat.beq i 1 then (s7_p2_den K M1) else (bif Nat.beq i 0 then (s7_p1_den K) else (fun _ _ => False)))) (s7_R K)
theorem s7_p4_ok (K : Value → World → Prop) (B1 : List Value → World → Prop) (s : Nat → Value) (w : World) (h : s7_p4 K B1 (s 2) (s 3) (s 5) (s 57) (s 58) w) : Tr (s7_p4_den K (fun s w => B1 [s 2, s 3, s 57, s 58] w) s w) :=
  tr_draw (P := Try.prog) (ops := (ro (cd (Try.f7.body.getD .skip) [1, 1, 0, 1, 0, 0, 1, 1, 0, 0, 1, 0]))) (ms := [0, 1, 0, 7, 15, 0, 32, 0, 224, 480, 1023, 2047]) (cs := [0, 1, 2, 3, 4, 5, 6, 7, 8, 9]) (N := (fun s w => s7_p3 K B1 (s 2) (s 3) (s 57) (s 58) (s 72) w)) (N' := (s7_p3_den K (fun s w => B1 [s 2, s 3, s 57, s 58] w))) (s := s) (w := w) (p := s7_p4 K B1 (s 2) (s 3) (s 5) (s 57) (s 58) w) (q := s7_p4_den K (fun s w => B1 [s 2, s 3, s 57, s 58] w) s w) (by kernel_rfl) (by kernel_rfl) (fun s w h => s7_p3_ok K B1 s w @h) (by kernel_rfl) (by kernel_rfl) @h
def s7_p5 (K : Value → World → Prop) (B1 : List Value → World → Prop) (t2 t3 t57 t58 : Value) (w : World) : Prop :=
  s7_p4 K B1 t2 t3 t58 t57 t58 w
def s7_p5_den (K : Value → World → Prop) (M1 : (Nat → Value) → World → Prop) : (Nat → Value) → World → Prop := denL Try.prog [(cd (Try.f7.body.getD .skip) [1, 1, 0, 1, 0, 0, 1, 1, 0, 0, 0])] (s7_p4_den K M1) (fun i => (bif Nat.beq i 1 then (s7_p2_den K M1) else (bif Nat.beq i 0 then (s7_p1_den K) else (fun _ _ => False)))) (s7_R K)
theorem s7_p5_ok (K : Value → World → Prop) (B1 : List Value → World → Prop) (s : Nat → Value) (w : World) (h : s7_p5 K B1 (s 2) (s 3) (s 57) (s 58) w) : Tr (s7_p5_den K (fun s w => B1 [s 2, s 3, s 57, s 58] w) s w) :=
  tr_simple (P := Try.prog) (codes := [(cd (Try.f7.body.getD .skip) [1, 1, 0, 1, 0, 0, 1, 1, 0, 0, 0])]) (N := (fun s w => s7_p4 K B1 (s 2) (s 3) (s 5) (s 57) (s 58) w)) (N' := (s7_p4_den K (fun s w => B1 [s 2, s 3, s 57, s 58] w))) (X := (fun i => (bif Nat.beq i 1 then (fun s w => s7_p2 K B1 (s 2) (s 3) (s 57) (s 58) w) else (bif Nat.beq i 0 then (fun s w => s7_p1 K w) else (fun _ _ => False))))) (X' := (fun i => (bif Nat.beq i 1 then (s7_p2_den K (fun s w => B1 [s 2, s 3, s 57, s 58] w)) else (bif Nat.beq i 0 then (s7_p1_den K) else (fun _ _ => False))))) (R := s7_R K) (s := s) (w := w) (p := s7_p5 K B1 (s 2) (s 3) (s 57) (s 58) w) (q := s7_p5_den K (fun s w => B1 [s 2, s 3, s 57, s 58] w) s w) (fun s w h => s7_p4_ok K B1 s w @h) (fun i => (tr_bif (fun s w h => s7_p2_ok K B1 s w @h) (tr_bif (fun s w h => s7_p1_ok K s w @h) tr_id))) (by kernel_rfl) (by kernel_rfl) @h
def s7_p6 (K : Value → World → Prop) (B1 : List Value → World → Prop) (t2 t3 t57 t58 : Value) (w : World) : Prop :=
  boI .lss t58 t57 (fun t59 w =>
  ifb t59
  (s7_p5 K B1 t2 t3 t57 t58 w)
  (s7_p1 K w)) w
def s7_p6_den (K : Value → World → Prop) (M1 : (Nat → Value) → World → Prop) : (Nat → Value) → World → Prop := denL Try.prog [(cd (Try.f7.body.getD .skip) [1, 1, 0, 1, 0, 0, 0]), (cd (Try.f7.body.getD .skip) [1, 1, 0, 1, 0, 0, 1, 0])] (s7_p5_den K M1) (fun i => (bif Nat.beq i 0 then (s7_p1_den K) else (fun _ _ => False))) (s7_R K)
theorem s7_p6_ok (K : Value → World → Prop) (B1 : List Value → World → Prop) (s : Nat → Value) (w : World) (h : s7_p6 K B1 (s 2) (s 3) (s 57) (s 58) w) : Tr (s7_p6_den K (fun s w => B1 [s 2, s 3, s 57, s 58] w) s w) :=
  tr_simple (P := Try.prog) (codes := [(cd (Try.f7.body.getD .skip) [1, 1, 0, 1, 0, 0, 0]), (cd (Try.f7.body.getD .skip) [1, 1, 0, 1, 0, 0, 1, 0])]) (N := (fun s w => s7_p5 K B1 (s 2) (s 3) (s 57) (s 58) w)) (N' := (s7_p5_den K (fun s w => B1 [s 2, s 3, s 57, s 58] w))) (X := (fun i => (bif Nat.beq i 0 then (fun s w => s7_p1 K w) else (fun _ _ => False)))) (X' := (fun i => (bif Nat.beq i 0 then (s7_p1_den K) else (fun _ _ => False)))) (R := s7_R K) (s := s) (w := w) (p := s7_p6 K B1 (s 2) (s 3) (s 57) (s 58) w) (q := s7_p6_den K (fun s w => B1 [s 2, s 3, s 57, s 58] w) s w) (fun s w h => s7_p5_ok K B1 s w @h) (fun i => (tr_bif (fun s w h => s7_p1_ok K s w @h) tr_id)) (by kernel_rfl) (by kernel_rfl) @h
def s7_p7_F (K : Value → World → Prop) (B1 : List Value → World → Prop) (l : List Value) (w : World) : Prop :=
  match l with
  | [t2, t3, t57, t58] => s7_p6 K B1 t2 t3 t57 t58 w
  | _ => False
theorem s7_p7_Fe {K : Value → World → Prop} {B1 : List Value → World → Prop} {t2 t3 t57 t58 : Value} {w : World} : s7_p7_F K B1 [t2, t3, t57, t58] w = s7_p6 K B1 t2 t3 t57 t58 w := by kernel_rfl
def s7_p7 (K : Value → World → Prop) (t2 t3 t57 t58 : Value) (w : World) : Prop :=
  LoopL (s7_p7_F K) [t2, t3, t57, t58] w
def s7_p7_den (K : Value → World → Prop) : (Nat → Value) → World → Prop := fun s w => LoopP (fun M1 s w => s7_p6_den K M1 s w) s w
theorem s7_p7_ok (K : Value → World → Prop) (s : Nat → Value) (w : World) (h : s7_p7 K (s 2) (s 3) (s 57) (s 58) w) : Tr (s7_p7_den K s w) :=
  tr_loop (G := fun N' s w => s7_p6_den K N' s w) (F := s7_p7_F K) (sel := fun s => [s 2, s 3, s 57, s 58]) (s := s) (w := w) (p := s7_p7 K (s 2) (s 3) (s 57) (s 58) w) (q := s7_p7_den K s w) (fun B s w h => s7_p6_ok K B s w @h) (by kernel_rfl) (by kernel_rfl) @h
def s7_p8 (K : Value → World → Prop) (t0 t1 : Value) (w : World) : Prop :=
  nw 49 (t0).cells (fun t2 w =>
  nw 49 (t1).cells (fun t3 w =>
  fd 0 t2 (fun t6 w =>
  ld1 t6 (fun t7 w =>
  fd 0 t3 (fun t8 w =>
  ld1 t8 (fun t9 w =>
  boI .neq t7 t9 (fun t10 w =>
  gd t10 false (fd 1 t2) (fun t12 w =>
  gd t10 false (ld1 t12) (fun t13 w =>
  gd t10 false (fd 1 t3) (fun t14 w =>
  gd t10 false (ld1 t14) (fun t15 w =>
  gd t10 false (boB .neq t13 t15) (fun t16 w =>
  pk t10 (.bool true) t16 (fun t17 w =>
  gd t17 false (fd 2 t2) (fun t19 w =>
  gd t17 false (ld1 t19) (fun t20 w =>
  gd t17 false (fd 2 t3) (fun t21 w =>
  gd t17 false (ld1 t21) (fun t22 w =>
  gd t17 false (boI .neq t20 t22) (fun t23 w =>
  pk t17 (.bool true) t23 (fun t24 w =>
  gd t24 false (fd 3 t2) (fun t26 w =>
  gd t24 false (ldn 2 t26) (fun t27 w =>
  gd t24 false (fd 3 t3) (fun t28 w =>
  gd t24 false (ldn 2 t28) (fun t29 w =>
  gd t24 false (bor Try.prog .neq 47 (.tmp 27) (.tmp 29) t27 t29) (fun t30 w =>
  pk t24 (.bool true) t30 (fun t31 w =>
  gd t31 false (fd 5 t2) (fun t33 w =>
  gd t31 false (ld1 t33) (fun t34 w =>
  gd t31 false (fd 5 t3) (fun t35 w =>
  gd t31 false (ld1 t35) (fun t36 w =>
  gd t31 false (boS .neq t34 t36) (fun t37 w =>
  pk t31 (.bool true) t37 (fun t38 w =>
  gd t38 false (fd 6 t2) (fun t40 w =>
  gd t38 false (ld1 t40) (fun t41 w =>
  gd t38 false (fd 6 t3) (fun t42 w =>
  gd t38 false (ld1 t42) (fun t43 w =>
  gd t38 false (boI .neq t41 t43) (fun t44 w =>
  pk t38 (.bool true) t44 (fun t45 w =>
  gd t45 false (fd 7 t2) (fun t47 w =>
  gd t45 false (ld1 t47) (fun t48 w =>
  gd t45 false (lnS t48) (fun t49 w =>
  gd t45 false (fd 7 t3) (fun t50 w =>
  gd t45 false (ld1 t50) (fun t51 w =>
  gd t45 false (lnS t51) (fun t52 w =>
  gd t45 false (boI .neq t49 t52) (fun t53 w =>
  pk t45 (.bool true) t53 (fun t54 w =>
  ifb t54
  (K (.bool false) w)
  (fd 7 t2 (fun t55 w =>
  ld1 t55 (fun t56 w =>
  lnS t56 (fun t57 w =>
  s7_p7 K t2 t3 t57 (.int .i64 0) w) w) w) w)) w) w) w) w) w) w) w) w) w) w) w) w) w) w) w) w) w) w) w) w) w) w) w) w) w) w) w) w) w) w) w) w) w) w) w) w) w) w) w) w) w) w) w) w) w
def s7_p8_den (K : Value → World → Prop) : (Nat → Value) → World → Prop := denL Try.prog [(cd (Try.f7.body.getD .skip) [0]), (cd (Try.f7.body.getD .skip) [1, 0, 0]), (cd (Try.f7.body.getD .skip) [1, 0, 1]), (cd (Try.f7.body.getD .skip) [1, 1, 0, 0])] (s7_p7_den K) (fun i => (fun _ _ => False)) (s7_R K)
theorem s7_p8_ok (K : Value → World → Prop) (s : Nat → Value) (w : World) (h : s7_p8 K (s 0) (s 1) w) : Tr (s7_p8_den K s w) :=
  tr_simple (P := Try.prog) (codes := [(cd (Try.f7.body.getD .skip) [0]), (cd (Try.f7.body.getD .skip) [1, 0, 0]), (cd (Try.f7.body.getD .skip) [1, 0, 1]), (cd (Try.f7.body.getD .skip) [1, 1, 0, 0])]) (N := (fun s w => s7_p7 K (s 2) (s 3) (s 57) (s 58) w)) (N' := (s7_p7_den K)) (X := (fun i => (fun _ _ => False))) (X' := (fun i => (fun _ _ => False))) (R := s7_R K) (s := s) (w := w) (p := s7_p8 K (s 0) (s 1) w) (q := s7_p8_den K s w) (fun s w h => s7_p7_ok K s w @h) (fun i => tr_id) (by kernel_rfl) (by kernel_rfl) @h
/-- the call, from the text -/
theorem c7 (t0 t1 : Value) {K : Value → World → Prop} {w : World} (h : s7_p8 K t0 t1 w) : cl Try.prog 7 #[t0, t1] K w :=
  calls_of_tr (c := (Try.f7.body.getD .skip)) (fn := Try.f7) (q := s7_p8_den K (st0 #[t0, t1]) w) Try.func7 (by kernel_rfl) (by kernel_rfl) (Nat.le_of_ble_eq_true (by kernel_rfl)) (by kernel_rfl) (by kernel_rfl) (s7_p8_ok K (st0 #[t0, t1]) w @h)

/-! ### function 8 : e2e.recordlaw.zzDeep1 -/
def s8_R (K : Value → World → Prop) (s : Nat → Value) (w : World) : Prop := retv Try.prog s Try.f8.results.toList (fun vs => K (pack vs) w) w
def s8_p1 (K : Value → World → Prop) (t1 : Value) (w : World) : Prop :=
  K t1 w
def s8_p1_den (K : Value → World → Prop) : (Nat → Value) → World → Prop := denL Try.prog [(cd (Try.f8.body.getD .skip) [1, 1, 1, 1, 1, 1, 1, 1, 0]), (cd (Try.f8.body.getD .skip) [1, 1, 1, 1, 1, 1, 1, 1, 1])] (fun _ _ => False) (fun i => (fun _ _ => False)) (s8_R K)
theorem s8_p1_ok (K : Value → World → Prop) (s : Nat → Value) (w : World) (h : s8_p1 K (s 1) w) : Tr (s8_p1_den K s w) :=
  tr_simple (P := Try.prog) (codes := [(cd (Try.f8.body.getD .skip) [1, 1, 1, 1, 1, 1, 1, 1, 0]), (cd (Try.f8.body.getD .skip) [1, 1, 1, 1, 1, 1, 1, 1, 1])]) (N := (fun _ _ => False)) (N' := (fun _ _ => False)) (X := (fun i => (fun _ _ => False))) (X' := (fun i => (fun _ _ => False))) (R := s8_R K) (s := s) (w := w) (p := s8_p1 K (s 1) w) (q := s8_p1_den K s w) tr_id (fun i => tr_id) (by kernel_rfl) (by kernel_rfl) @h
def s8_p2 (K : Value → World → Prop) (B1 : List Value → World → Prop) (t1 t2 t5 : Value) (w : World) : Prop :=
  fd 7 t2 (fun t28 w =>
  ld1 t28 (fun t29 w =>
  lnS t29 (fun t30 w =>
  boI .lss t5 t30 (fun t31 w =>
  ifb t31
  (fd 7 t2 (fun t34 w =>
  ld1 t34 (fun t35 w =>
  ixs 8 t35 t5 (fun t37 w =>
  ldn 8 t37 (fun t38 w =>
  cl Try.prog 8 #[t38, t1] (fun t40 w =>
  boI .gtr t40 (.int .i64 65536) (fun t42 w =>
  ifb t42
  (K t40 w)
  (boI .add t5 (.int .i64 1) (fun t33 w =>
  B1 [t40, t2, t33] w) w)) w) w) w) w) w) w)
  (s8_p1 K t1 w)) w) w) w) w
def s8_p2_den (K : Value → World → Prop) (M1 : (Nat → Value) → World → Prop) : (Nat → Value) → World → Prop := denL Try.prog [(cd (Try.f8.body.getD .skip) [1, 1, 1, 1, 1, 1, 1, 0, 1, 0, 0, 0, 0]), (cd (Try.f8.body.getD .skip) [1, 1, 1, 1, 1, 1, 1, 0, 1, 0, 0, 0, 1]), (cd (Try.f8.body.getD .skip) [1, 1, 1, 1, 1, 1, 1, 0, 1, 0, 0, 1, 0]), (cd (Try.f8.body.getD .skip) [1, 1, 1, 1, 1, 1, 1, 0, 1, 0, 0, 1, 1])] M1 (fun i => (bif Nat.beq i 0 then (s8_p1_den K) else (fun _ _ => False))) (s8_R K)
theorem s8_p2_ok (K : Value → World → Prop) (B1 : List Value → World → Prop) (s : Nat → Value) (w : World) (h : s8_p2 K B1 (s 1) (s 2) (s 5) w) : Tr (s8_p2_den K (fun s w => B1 [s 1, s 2, s 5] w) s w) :=
  tr_simple (P := Try.prog) (codes := [(cd (Try.f8.body.getD .skip) [1, 1, 1, 1, 1, 1, 1, 0, 1, 0, 0, 0, 0]), (cd (Try.f8.body.getD .skip) [1, 1, 1, 1, 1, 1, 1, 0, 1, 0, 0, 0, 1]), (cd (Try.f8.body.getD .skip) [1, 1, 1, 1, 1, 1, 1, 0, 1, 0, 0, 1, 0]), (cd (Try.f8.body.getD .skip) [1, 1, 1, 1, 1, 1, 1, 0, 1, 0, 0, 1, 1])]) (N := (fun s w => B1 [s 1, s 2, s 5] w)) (N' := (fun s w => B1 [s 1, s 2, s 5] w)) (X := (fun i => (bif Nat.beq i 0 then (fun s w => s8_p1 K (s 1) w) else (fun _ _ => False)))) (X' := (fun i => (bif Nat.beq i 0 then (s8_p1_den K) else (fun _ _ => False)))) (R := s8_R K) (s := s) (w := w) (p := s8_p2 K B1 (s 1) (s 2) (s 5) w) (q := s8_p2_den K (fun s w => B1 [s 1, s 2, s 5] w) s w) tr_id (fun i => (tr_bif (fun s w h => s8_p1_ok K s w @h) tr_id)) (by kernel_rfl) (by kernel_rfl) @h
def s8_p3_F (K : Value → World → Prop) (B1 : List Value → World → Prop) (l : List Value) (w : World) : Prop :=
  match l with
  | [t1, t2, t5] => s8_p2 K B1 t1 t2 t5 w
  | _ => False
theorem s8_p3_Fe {K : Value → World → Prop} {B1 : List Value → World → Prop} {t1 t2 t5 : Value} {w : World} : s8_p3_F K B1 [t1, t2, t5] w = s8_p2 K B1 t1 t2 t5 w := by kernel_rfl
def s8_p3 (K : Value → World → Prop) (t1 t2 t5 : Value) (w : World) : Prop :=
  LoopL (s8_p3_F K) [t1, t2, t5] w
def s8_p3_den (K : Value → World → Prop) : (Nat → Value) → World → Prop := fun s w => LoopP (fun M1 s w => s8_p2_den K M1 s w) s w
theorem s8_p3_ok (K : Value → World → Prop) (s : Nat → Value) (w : World) (h : s8_p3 K (s 1) (s 2) (s 5) w) : Tr (s8_p3_den K s w) :=
  tr_loop (G := fun N' s w => s8_p2_den K N' s w) (F := s8_p3_F K) (sel := fun s => [s 1, s 2, s 5]) (s := s) (w := w) (p := s8_p3 K (s 1) (s 2) (s 5) w) (q := s8_p3_den K s w) (fun B s w h => s8_p2_ok K B s w @h) (by kernel_rfl) (by kernel_rfl) @h
def s8_p4 (K : Value → World → Prop) (t0 t1 : Value) (w : World) : Prop :=
  nw 49 (t0).cells (fun t2 w =>
  boI .add t1 (.int .i64 1) (fun t7 w =>
  boI .gtr t7 (.int .i64 65536) (fun t9 w =>
  ifb t9
  (K t7 w)
  (fd 5 t2 (fun t12 w =>
  ld1 t12 (fun t13 w =>
  lnT t13 (fun t14 w =>
  boI .add t7 t14 (fun t15 w =>
  boI .gtr t15 (.int .i64 65536) (fun t17 w =>
  ifb t17
  (K t15 w)
  (fd 7 t2 (fun t20 w =>
  ld1 t20 (fun t21 w =>
  lnS t21 (fun t22 w =>
  boI .add t15 t22 (fun t23 w =>
  boI .gtr t23 (.int .i64 65536) (fun t25 w =>
  ifb t25
  (K t23 w)
  (s8_p3 K t23 t2 (.int .i64 0) w)) w) w) w) w) w)) w) w) w) w) w)) w) w) w
def s8_p4_den (K : Value → World → Prop) : (Nat → Value) → World → Prop := denL Try.prog [(cd (Try.f8.body.getD .skip) [0]), (cd (Try.f8.body.getD .skip) [1, 0]), (cd (Try.f8.body.getD .skip) [1, 1, 0, 0]), (cd (Try.f8.body.getD .skip) [1, 1, 0, 1]), (cd (Try.f8.body.getD .skip) [1, 1, 1, 0]), (cd (Try.f8.body.getD .skip) [1, 1, 1, 1, 0, 0]), (cd (Try.f8.body.getD .skip) [1, 1, 1, 1, 0, 1]), (cd (Try.f8.body.getD .skip) [1, 1, 1, 1, 1, 0]), (cd (Try.f8.body.getD .skip) [1, 1, 1, 1, 1, 1, 0, 0]), (cd (Try.f8.body.getD .skip) [1, 1, 1, 1, 1, 1, 0, 1]), (cd (Try.f8.body.getD .skip) [1, 1, 1, 1, 1, 1, 1, 0, 0])] (s8_p3_den K) (fun i => (fun _ _ => False)) (s8_R K)
theorem s8_p4_ok (K : Value → World → Prop) (s : Nat → Value) (w : World) (h : s8_p4 K (s 0) (s 1) w) : Tr (s8_p4_den K s w) :=
  tr_simple (P := Try.prog) (codes := [(cd (Try.f8.body.getD .skip) [0]), (cd (Try.f8.body.getD .skip) [1, 0]), (cd (Try.f8.body.getD .skip) [1, 1, 0, 0]), (cd (Try.f8.body.getD .skip) [1, 1, 0, 1]), (cd (Try.f8.body.getD .skip) [1, 1, 1, 0]), (cd (Try.f8.body.getD .skip) [1, 1, 1, 1, 0, 0]), (cd (Try.f8.body.getD .skip) [1, 1, 1, 1, 0, 1]), (cd (Try.f8.body.getD .skip) [1, 1, 1, 1, 1, 0]), (cd (Try.f8.body.getD .skip) [1, 1, 1, 1, 1, 1, 0, 0]), (cd (Try.f8.body.getD .skip) [1, 1, 1, 1, 1, 1, 0, 1]), (cd (Try.f8.body.getD .skip) [1, 1, 1, 1, 1, 1, 1, 0, 0])]) (N := (fun s w => s8_p3 K (s 1) (s 2) (s 5) w)) (N' := (s8_p3_den K)) (X := (fun i => (fun _ _ => False))) (X' := (fun i => (fun _ _ => False))) (R := s8_R K) (s := s) (w := w) (p := s8_p4 K (s 0) (s 1) w) (q := s8_p4_den K s w) (fun s w h => s8_p3_ok K s w @h) (fun i => tr_id) (by kernel_rfl) (by kernel_rfl) @h
/-- the call, from the text -/
theorem c8 (t0 t1 : Value) {K : Value → World → Prop} {w : World} (h : s8_p4 K t0 t1 w) : cl Try.prog 8 #[t0, t1] K w :=
  calls_of_tr (c := (Try.f8.body.getD .skip)) (fn := Try.f8) (q := s8_p4_den K (st0 #[t0, t1]) w) Try.func8 (by kernel_rfl) (by kernel_rfl) (Nat.le_of_ble_eq_true (by kernel_rfl)) (by kernel_rfl) (by kernel_rfl) (s8_p4_ok K (st0 #[t0, t1]) w @h)

/-! ### function 9 : e2e.recordm.within -/
def s9_R (K : Value → World → Prop) (s : Nat → Value) (w : World) : Prop := retv Try.prog s Try.f9.results.toList (fun vs => K (pack vs) w) w
def s9_p1 (K : Value → World → Prop) (t3 : Value) (w : World) : Prop :=
  K t3 w
def s9_p1_den (K : Value → World → Prop) : (Nat → Value) → World → Prop := denL Try.prog [(cd (Try.f9.body.getD .skip) [1, 1, 1, 0]), (cd (Try.f9.body.getD .skip) [1, 1, 1, 1])] (fun _ _ => False) (fun i => (fun _ _ => False)) (s9_R K)
theorem s9_p1_ok (K : Value → World → Prop) (s : Nat → Value) (w : World) (h : s9_p1 K (s 3) w) : Tr (s9_p1_den K s w) :=
  tr_simple (P := Try.prog) (codes := [(cd (Try.f9.body.getD .skip) [1, 1, 1, 0]), (cd (Try.f9.body.getD .skip) [1, 1, 1, 1])]) (N := (fun _ _ => False)) (N' := (fun _ _ => False)) (X := (fun i => (fun _ _ => False))) (X' := (fun i => (fun _ _ => False))) (R := s9_R K) (s := s) (w := w) (p := s9_p1 K (s 3) w) (q := s9_p1_den K s w) tr_id (fun i => tr_id) (by kernel_rfl) (by kernel_rfl) @h
def s9_p2 (K : Value → World → Prop) (B1 : List Value → World → Prop) (t3 t9 t10 t11 : Value) (w : World) : Prop :=
  boI .lss t11 t10 (fun t12 w =>
  ifb t12
  (ixs 8 t9 t11 (fun t13 w =>
  ldn 8 t13 (fun t14 w =>
  nw 49 #[(.int .u8 0), (.bool false), (.int .i64 0), (.int .i64 0), (.int .i32 0), (.string ⟨#[]⟩), (.int .u8 0), (.slice none 0 0)] (fun t5 w =>
  stn 8 t5 t14 (fun w =>
  ldn 8 t5 (fun t16 w =>
  cl Try.prog 9 #[t16] (fun t17 w =>
  apq 49 [(.int .u8 0), (.bool false), (.int .i64 0), (.int .i64 0), (.int .i32 0), (.string ⟨#[]⟩), (.int .u8 0), (.slice none 0 0)] 80 t3 t17 (fun t18 w =>
  boI .add t11 (.int .i64 1) (fun t19 w =>
  B1 [t18, t9, t10, t19] w) w) w) w) w) w) w) w) w)
  (s9_p1 K t3 w)) w
def s9_p2_den (K : Value → World → Prop) (M1 : (Nat → Value) → World → Prop) : (Nat → Value) → World → Prop := denL Try.prog [(cd (Try.f9.body.getD .skip) [1, 1, 0, 1, 0, 0, 0]), (cd (Try.f9.body.getD .skip) [1, 1, 0, 1, 0, 0, 1, 0]), (cd (Try.f9.body.getD .skip) [1, 1, 0, 1, 0, 0, 1, 1, 0]), (cd (Try.f9.body.getD .skip) [1, 1, 0, 1, 0, 0, 1, 1, 1])] M1 (fun i => (bif Nat.beq i 0 then (s9_p1_den K) else (fun _ _ => False))) (s9_R K)
theorem s9_p2_ok (K : Value → World → Prop) (B1 : List Value → World → Prop) (s : Nat → Value) (w : World) (h : s9_p2 K B1 (s 3) (s 9) (s 10) (s 11) w) : Tr (s9_p2_den K (fun s w => B1 [s 3, s 9, s 10, s 11] w) s w) :=
  tr_simple (P := Try.prog) (codes := [(cd (Try.f9.body.getD .skip) [1, 1, 0, 1, 0, 0, 0]), (cd (Try.f9.body.getD .skip) [1, 1, 0, 1, 0, 0, 1, 0]), (cd (Try.f9.body.getD .skip) [1, 1, 0, 1, 0, 0, 1, 1, 0]), (cd (Try.f9.body.getD .skip) [1, 1, 0, 1, 0, 0, 1, 1, 1])]) (N := (fun s w => B1 [s 3, s 9, s 10, s 11] w)) (N' := (fun s w => B1 [s 3, s 9, s 10, s 11] w)) (X := (fun i => (bif Nat.beq i 0 then (fun s w => s9_p1 K (s 3) w) else (fun _ _ => False)))) (X' := (fun i => (bif Nat.beq i 0 then (s9_p1_den K) else (fun _ _ => False)))) (R := s9_R K) (s := s) (w := w) (p := s9_p2 K B1 (s 3) (s 9) (s 10) (s 11) w) (q := s9_p2_den K (fun s w => B1 [s 3, s 9, s 10, s 11] w) s w) tr_id (fun i => (tr_bif (fun s w h => s9_p1_ok K s w @h) tr_id)) (by kernel_rfl) (by kernel_rfl) @h
def s9_p3_F (K : Value → World → Prop) (B1 : List Value → World → Prop) (l : List Value) (w : World) : Prop :=
  match l with
  | [t3, t9, t10, t11] => s9_p2 K B1 t3 t9 t10 t11 w
  | _ => False
theorem s9_p3_Fe {K : Value → World → Prop} {B1 : List Value → World → Prop} {t3 t9 t10 t11 : Value} {w : World} : s9_p3_F K B1 [t3, t9, t10, t11] w = s9_p2 K B1 t3 t9 t10 t11 w := by kernel_rfl
def s9_p3 (K : Value → World → Prop) (t3 t9 t10 t11 : Value) (w : World) : Prop :=
  LoopL (s9_p3_F K) [t3, t9, t10, t11] w
def s9_p3_den (K : Value → World → Prop) : (Nat → Value) → World → Prop := fun s w => LoopP (fun M1 s w => s9_p2_den K M1 s w) s w
theorem s9_p3_ok (K : Value → World → Prop) (s : Nat → Value) (w : World) (h : s9_p3 K (s 3) (s 9) (s 10) (s 11) w) : Tr (s9_p3_den K s w) :=
  tr_loop (G := fun N' s w => s9_p2_den K N' s w) (F := s9_p3_F K) (sel := fun s => [s 3, s 9, s 10, s 11]) (s := s) (w := w) (p := s9_p3 K (s 3) (s 9) (s 10) (s 11) w) (q := s9_p3_den K s w) (fun B s w h => s9_p2_ok K B s w @h) (by kernel_rfl) (by kernel_rfl) @h
def s9_p4 (K : Value → World → Prop) (t0 : Value) (w : World) : Prop :=
  nw 49 (t0).cells (fun t1 w =>
  ldn 8 t1 (fun t6 w =>
  bsq 49 [(.int .u8 0), (.bool false), (.int .i64 0), (.int .i64 0), (.int .i32 0), (.string ⟨#[]⟩), (.int .u8 0), (.slice none 0 0)] 1 [(some (0, 8), t6)] (fun t7 w =>
  fd 7 t1 (fun t8 w =>
  ld1 t8 (fun t9 w =>
  lnS t9 (fun t10 w =>
  s9_p3 K t7 t9 t10 (.int .i64 0) w) w) w) w) w) w) w
def s9_p4_den (K : Value → World → Prop) : (Nat → Value) → World → Prop := denL Try.prog [(cd (Try.f9.body.getD .skip) [0]), (cd (Try.f9.body.getD .skip) [1, 0]), (cd (Try.f9.body.getD .skip) [1, 1, 0, 0])] (s9_p3_den K) (fun i => (fun _ _ => False)) (s9_R K)
theorem s9_p4_ok (K : Value → World → Prop) (s : Nat → Value) (w : World) (h : s9_p4 K (s 0) w) : Tr (s9_p4_den K s w) :=
  tr_simple (P := Try.prog) (codes := [(cd (Try.f9.body.getD .skip) [0]), (cd (Try.f9.body.getD .skip) [1, 0]), (cd (Try.f9.body.getD .skip) [1, 1, 0, 0])]) (N := (fun s w => s9_p3 K (s 3) (s 9) (s 10) (s 11) w)) (N' := (s9_p3_den K)) (X := (fun i => (fun _ _ => False))) (X' := (fun i => (fun _ _ => False))) (R := s9_R K) (s := s) (w := w) (p := s9_p4 K (s 0) w) (q := s9_p4_den K s w) (fun s w h => s9_p3_ok K s w @h) (fun i => tr_id) (by kernel_rfl) (by kernel_rfl) @h
/-- the call, from the text -/
theorem c9 (t0 : Value) {K : Value → World → Prop} {w : World} (h : s9_p4 K t0 w) : cl Try.prog 9 #[t0] K w :=
  calls_of_tr (c := (Try.f9.body.getD .skip)) (fn := Try.f9) (q := s9_p4_den K (st0 #[t0]) w) Try.func9 (by kernel_rfl) (by kernel_rfl) (Nat.le_of_ble_eq_true (by kernel_rfl)) (by kernel_rfl) (by kernel_rfl) (s9_p4_ok K (st0 #[t0]) w @h)

end Go.Proofs.Qxb6500894a
