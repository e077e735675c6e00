import Derived.Test.Qxb6500899aFmtProg
import Derived.Test.Qxb6500899aFmtShTr
namespace Go.Proofs.Qxb6500899aFmt
open Go.Sh Go.RowKit
set_option linter.unusedVariables false
set_option maxRecDepth 100000

def lit_1 : ByteArray := ⟨#[0, 1, 1, 2, 1, 2, 2, 3, 1, 2, 2, 3, 2, 3, 3, 4, 1, 2, 2, 3, 2, 3, 3, 4, 2, 3, 3, 4, 3, 4, 4, 5, 1, 2, 2, 3, 2, 3, 3, 4, 2, 3, 3, 4, 3, 4, 4, 5, 2, 3, 3, 4, 3, 4, 4, 5, 3, 4, 4, 5, 4, 5, 5, 6, 1, 2, 2, 3, 2, 3, 3, 4, 2, 3, 3, 4, 3, 4, 4, 5, 2, 3, 3, 4, 3, 4, 4, 5, 3, 4, 4, 5, 4, 5, 5, 6, 2, 3, 3, 4, 3, 4, 4, 5, 3, 4, 4, 5, 4, 5, 5, 6, 3, 4, 4, 5, 4, 5, 5, 6, 4, 5, 5, 6, 5, 6, 6, 7, 1, 2, 2, 3, 2, 3, 3, 4, 2, 3, 3, 4, 3, 4, 4, 5, 2, 3, 3, 4, 3, 4, 4, 5, 3, 4, 4, 5, 4, 5, 5, 6, 2, 3, 3, 4, 3, 4, 4, 5, 3, 4, 4, 5, 4, 5, 5, 6, 3, 4, 4, 5, 4, 5, 5, 6, 4, 5, 5, 6, 5, 6, 6, 7, 2, 3, 3, 4, 3, 4, 4, 5, 3, 4, 4, 5, 4, 5, 5, 6, 3, 4, 4, 5, 4, 5, 5, 6, 4, 5, 5, 6, 5, 6, 6, 7, 3, 4, 4, 5, 4, 5, 5, 6, 4, 5, 5, 6, 5, 6, 6, 7, 4, 5, 5, 6, 5, 6, 6, 7, 5, 6, 6, 7, 6, 7, 7, 8]⟩
/-! ### function 3 : e2e.disklaw.GeometriesAreJudgedRightly -/
def s3_R (K : Value → World → Prop) (s : Nat → Value) (w : World) : Prop := retv Tryf.prog s Tryf.f3.results.toList (fun vs => K (pack vs) w) w
def s3_p1 (K : Value → World → Prop) (w : World) : Prop :=
  K (.bool true) w
def s3_p1_den (K : Value → World → Prop) : (Nat → Value) → World → Prop := denL Tryf.prog [(cd (Tryf.f3.body.getD .skip) [1, 1, 1, 0]), (cd (Tryf.f3.body.getD .skip) [1, 1, 1, 1])] (fun _ _ => False) (fun i => (fun _ _ => False)) (s3_R K)
theorem s3_p1_ok (K : Value → World → Prop) (s : Nat → Value) (w : World) (h : s3_p1 K w) : Tr (s3_p1_den K s w) :=
  tr_simple (P := Tryf.prog) (codes := [(cd (Tryf.f3.body.getD .skip) [1, 1, 1, 0]), (cd (Tryf.f3.body.getD .skip) [1, 1, 1, 1])]) (N := (fun _ _ => False)) (N' := (fun _ _ => False)) (X := (fun i => (fun _ _ => False))) (X' := (fun i => (fun _ _ => False))) (R := s3_R K) (s := s) (w := w) (p := s3_p1 K w) (q := s3_p1_den K s w) tr_id (fun i => tr_id) (by kernel_rfl) (by kernel_rfl) @h
def s3_p2 (K : Value → World → Prop) (B1 : List Value → World → Prop) (t19 t20 t21 : Value) (w : World) : Prop :=
  boI .add t21 (.int .i64 1) (fun t143 w =>
  B1 [t19, t20, t143] w) w
def s3_p2_den (K : Value → World → Prop) (M1 : (Nat → Value) → World → Prop) : (Nat → Value) → World → Prop := denL Tryf.prog [(cd (Tryf.f3.body.getD .skip) [1, 1, 0, 1, 0, 0, 1, 1, 1])] M1 (fun i => (bif Nat.beq i 0 then (s3_p1_den K) else (fun _ _ => False))) (s3_R K)
theorem s3_p2_ok (K : Value → World → Prop) (B1 : List Value → World → Prop) (s : Nat → Value) (w : World) (h : s3_p2 K B1 (s 19) (s 20) (s 21) w) : Tr (s3_p2_den K (fun s w => B1 [s 19, s 20, s 21] w) s w) :=
  tr_simple (P := Tryf.prog) (codes := [(cd (Tryf.f3.body.getD .skip) [1, 1, 0, 1, 0, 0, 1, 1, 1])]) (N := (fun s w => B1 [s 19, s 20, s 21] w)) (N' := (fun s w => B1 [s 19, s 20, s 21] w)) (X := (fun i => (bif Nat.beq i 0 then (fun s w => s3_p1 K w) else (fun _ _ => False)))) (X' := (fun i => (bif Nat.beq i 0 then (s3_p1_den K) else (fun _ _ => False)))) (R := s3_R K) (s := s) (w := w) (p := s3_p2 K B1 (s 19) (s 20) (s 21) w) (q := s3_p2_den K (fun s w => B1 [s 19, s 20, s 21] w) s w) tr_id (fun i => (tr_bif (fun s w h => s3_p1_ok K s w @h) tr_id)) (by kernel_rfl) (by kernel_rfl) @h
def s3_p3 (K : Value → World → Prop) (B1 : List Value → World → Prop) (B2 : List Value → World → Prop) (t7 t12 t13 t19 t20 t21 t123 t124 t125 : Value) (w : World) : Prop :=
  boI .lss t125 t124 (fun t126 w =>
  ifb t126
  (ixs 1 t123 t125 (fun t127 w =>
  ld1 t127 (fun t128 w =>
  ixs 1 t12 (.int .i64 0) (fun t130 w =>
  st1 t130 (.int .u8 1) (fun w =>
  cl Tryf.prog 11 #[t7, t128, t12] (fun t134 w =>
  boF Tryf.prog true .neq t134 .nilIface (fun t135 w =>
  gd t135 false (fun K w => K t12 w) (fun t137 w =>
  gd t135 false (fun K w => K t13 w) (fun t138 w =>
  gd t135 false (cl Tryf.prog 12 #[t137, t138]) (fun t139 w =>
  gd t135 false (un .not t139) (fun t140 w =>
  pk t135 (.bool true) t140 (fun t141 w =>
  ifb t141
  (K (.bool false) w)
  (boI .add t125 (.int .i64 1) (fun t142 w =>
  B2 [t7, t12, t13, t19, t20, t21, t123, t124, t142] w) w)) w) w) w) w) w) w) w) w) w) w) w)
  (s3_p2 K B1 t19 t20 t21 w)) w
def s3_p3_den (K : Value → World → Prop) (M1 : (Nat → Value) → World → Prop) (M2 : (Nat → Value) → World → Prop) : (Nat → Value) → World → Prop := denL Tryf.prog [(cd (Tryf.f3.body.getD .skip) [1, 1, 0, 1, 0, 0, 1, 1, 0, 0, 1, 1, 1, 1, 1, 1, 1, 1, 1, 1, 0, 0, 0]), (cd (Tryf.f3.body.getD .skip) [1, 1, 0, 1, 0, 0, 1, 1, 0, 0, 1, 1, 1, 1, 1, 1, 1, 1, 1, 1, 0, 0, 1, 0]), (cd (Tryf.f3.body.getD .skip) [1, 1, 0, 1, 0, 0, 1, 1, 0, 0, 1, 1, 1, 1, 1, 1, 1, 1, 1, 1, 0, 0, 1, 1, 0]), (cd (Tryf.f3.body.getD .skip) [1, 1, 0, 1, 0, 0, 1, 1, 0, 0, 1, 1, 1, 1, 1, 1, 1, 1, 1, 1, 0, 0, 1, 1, 1])] M2 (fun i => (bif Nat.beq i 2 then (s3_p2_den K M1) else (bif Nat.beq i 1 then (s3_p2_den K M1) else (bif Nat.beq i 0 then (s3_p1_den K) else (fun _ _ => False))))) (s3_R K)
theorem s3_p3_ok (K : Value → World → Prop) (B1 : List Value → World → Prop) (B2 : List Value → World → Prop) (s : Nat → Value) (w : World) (h : s3_p3 K B1 B2 (s 7) (s 12) (s 13) (s 19) (s 20) (s 21) (s 123) (s 124) (s 125) w) : Tr (s3_p3_den K (fun s w => B1 [s 19, s 20, s 21] w) (fun s w => B2 [s 7, s 12, s 13, s 19, s 20, s 21, s 123, s 124, s 125] w) s w) :=
  tr_simple (P := Tryf.prog) (codes := [(cd (Tryf.f3.body.getD .skip) [1, 1, 0, 1, 0, 0, 1, 1, 0, 0, 1, 1, 1, 1, 1, 1, 1, 1, 1, 1, 0, 0, 0]), (cd (Tryf.f3.body.getD .skip) [1, 1, 0, 1, 0, 0, 1, 1, 0, 0, 1, 1, 1, 1, 1, 1, 1, 1, 1, 1, 0, 0, 1, 0]), (cd (Tryf.f3.body.getD .skip) [1, 1, 0, 1, 0, 0, 1, 1, 0, 0, 1, 1, 1, 1, 1, 1, 1, 1, 1, 1, 0, 0, 1, 1, 0]), (cd (Tryf.f3.body.getD .skip) [1, 1, 0, 1, 0, 0, 1, 1, 0, 0, 1, 1, 1, 1, 1, 1, 1, 1, 1, 1, 0, 0, 1, 1, 1])]) (N := (fun s w => B2 [s 7, s 12, s 13, s 19, s 20, s 21, s 123, s 124, s 125] w)) (N' := (fun s w => B2 [s 7, s 12, s 13, s 19, s 20, s 21, s 123, s 124, s 125] w)) (X := (fun i => (bif Nat.beq i 2 then (fun s w => s3_p2 K B1 (s 19) (s 20) (s 21) w) else (bif Nat.beq i 1 then (fun s w => s3_p2 K B1 (s 19) (s 20) (s 21) w) else (bif Nat.beq i 0 then (fun s w => s3_p1 K w) else (fun _ _ => False)))))) (X' := (fun i => (bif Nat.beq i 2 then (s3_p2_den K (fun s w => B1 [s 19, s 20, s 21] w)) else (bif Nat.beq i 1 then (s3_p2_den K (fun s w => B1 [s 19, s 20, s 21] w)) else (bif Nat.beq i 0 then (s3_p1_den K) else (fun _ _ => False)))))) (R := s3_R K) (s := s) (w := w) (p := s3_p3 K B1 B2 (s 7) (s 12) (s 13) (s 19) (s 20) (s 21) (s 123) (s 124) (s 125) w) (q := s3_p3_den K (fun s w => B1 [s 19, s 20, s 21] w) (fun s w => B2 [s 7, s 12, s 13, s 19, s 20, s 21, s 123, s 124, s 125] w) s w) tr_id (fun i => (tr_bif (fun s w h => s3_p2_ok K B1 s w @h) (tr_bif (fun s w h => s3_p2_ok K B1 s w @h) (tr_bif (fun s w h => s3_p1_ok K s w @h) tr_id)))) (by kernel_rfl) (by kernel_rfl) @h
def s3_p4_F (K : Value → World → Prop) (B1 : List Value → World → Prop) (B2 : List Value → World → Prop) (l : List Value) (w : World) : Prop :=
  match l with
  | [t7, t12, t13, t19, t20, t21, t123, t124, t125] => s3_p3 K B1 B2 t7 t12 t13 t19 t20 t21 t123 t124 t125 w
  | _ => False
theorem s3_p4_Fe {K : Value → World → Prop} {B1 : List Value → World → Prop} {B2 : List Value → World → Prop} {t7 t12 t13 t19 t20 t21 t123 t124 t125 : Value} {w : World} : s3_p4_F K B1 B2 [t7, t12, t13, t19, t20, t21, t123, t124, t125] w = s3_p3 K B1 B2 t7 t12 t13 t19 t20 t21 t123 t124 t125 w := by kernel_rfl
def s3_p4 (K : Value → World → Prop) (B1 : List Value → World → Prop) (t7 t12 t13 t19 t20 t21 t123 t124 t125 : Value) (w : World) : Prop :=
  LoopL (s3_p4_F K B1) [t7, t12, t13, t19, t20, t21, t123, t124, t125] w
def s3_p4_den (K : Value → World → Prop) (M1 : (Nat → Value) → World → Prop) : (Nat → Value) → World → Prop := fun s w => LoopP (fun M2 s w => s3_p3_den K M1 M2 s w) s w
theorem s3_p4_ok (K : Value → World → Prop) (B1 : List Value → World → Prop) (s : Nat → Value) (w : World) (h : s3_p4 K B1 (s 7) (s 12) (s 13) (s 19) (s 20) (s 21) (s 123) (s 124) (s 125) w) : Tr (s3_p4_den K (fun s w => B1 [s 19, s 20, s 21] w) s w) :=
  tr_loop (G := fun N' s w => s3_p3_den K (fun s w => B1 [s 19, s 20, s 21] w) N' s w) (F := s3_p4_F K B1) (sel := fun s => [s 7, s 12, s 13, s 19, s 20, s 21, s 123, s 124, s 125]) (s := s) (w := w) (p := s3_p4 K B1 (s 7) (s 12) (s 13) (s 19) (s 20) (s 21) (s 123) (s 124) (s 125) w) (q := s3_p4_den K (fun s w => B1 [s 19, s 20, s 21] w) s w) (fun B s w h => s3_p3_ok K B1 B s w @h) (by kernel_rfl) (by kernel_rfl) @h
def s3_p5_d (K : Value → World → Prop) (B1 : List Value → World → Prop) (t4 t5 t7 t12 t13 t19 t20 t21 : Value) (w0 w : World) : Prop :=
  fd 1 t5 (fun t112 _ =>
  ld1 t112 (fun t113 _ =>
  boI .quo t113 (.int .u64 2) (fun t114 _ =>
  fd 1 t5 (fun t115 _ =>
  ld1 t115 (fun t116 _ =>
  boI .sub t116 (.int .u64 1) (fun t117 _ =>
  fd 1 t4 (fun t118 _ =>
  ld1 t118 (fun t119 _ =>
  fd 1 t5 (fun t120 _ =>
  ld1 t120 (fun t121 _ =>
  boI .rem t119 t121 (fun t122 _ =>
  bsq 25 [(.int .u64 0)] 4 [(some (0, 1), (.int .u64 0)), (some (1, 1), t114), (some (2, 1), t117), (some (3, 1), t122)] (fun t123 w =>
  lnS t123 (fun t124 w =>
  s3_p4 K B1 t7 t12 t13 t19 t20 t21 t123 t124 (.int .i64 0) w) w) w) w0) w0) w0) w0) w0) w0) w0) w0) w0) w0) w0
def s3_p5 (K : Value → World → Prop) (B1 : List Value → World → Prop) (t4 t5 t7 t12 t13 t19 t20 t21 : Value) (w : World) : Prop := s3_p5_d K B1 t4 t5 t7 t12 t13 t19 t20 t21 (drw w) (drw w)
def s3_p5_den (K : Value → World → Prop) (M1 : (Nat → Value) → World → Prop) : (Nat → Value) → World → Prop := denL Tryf.prog [(cd (Tryf.f3.body.getD .skip) [1, 1, 0, 1, 0, 0, 1, 1, 0, 0, 1, 1, 1, 1, 1, 1, 1, 1, 1, 0])] (s3_p4_den K M1) (fun i => (bif Nat.beq i 1 then (s3_p2_den K M1) else (bif Nat.beq i 0 then (s3_p1_den K) else (fun _ _ => False)))) (s3_R K)
theorem s3_p5_ok (K : Value → World → Prop) (B1 : List Value → World → Prop) (s : Nat → Value) (w : World) (h : s3_p5 K B1 (s 4) (s 5) (s 7) (s 12) (s 13) (s 19) (s 20) (s 21) w) : Tr (s3_p5_den K (fun s w => B1 [s 19, s 20, s 21] w) s w) :=
  tr_draw (P := Tryf.prog) (ops := (ro (cd (Tryf.f3.body.getD .skip) [1, 1, 0, 1, 0, 0, 1, 1, 0, 0, 1, 1, 1, 1, 1, 1, 1, 1, 1, 0]))) (ms := [0, 1, 3, 0, 8, 24, 0, 64, 0, 256, 960, 2047, 4095, 0]) (cs := [0, 1, 2, 3, 4, 5, 6, 7, 8, 9, 10, 13]) (N := (fun s w => s3_p4 K B1 (s 7) (s 12) (s 13) (s 19) (s 20) (s 21) (s 123) (s 124) (s 125) w)) (N' := (s3_p4_den K (fun s w => B1 [s 19, s 20, s 21] w))) (s := s) (w := w) (p := s3_p5 K B1 (s 4) (s 5) (s 7) (s 12) (s 13) (s 19) (s 20) (s 21) w) (q := s3_p5_den K (fun s w => B1 [s 19, s 20, s 21] w) s w) (by kernel_rfl) (by kernel_rfl) (fun s w h => s3_p4_ok K B1 s w @h) (by kernel_rfl) (by kernel_rfl) @h
def s3_p6_d (K : Value → World → Prop) (B1 : List Value → World → Prop) (t4 t5 t7 t19 t20 t21 : Value) (w0 w : World) : Prop :=
  fd 0 t5 (fun t106 _ =>
  ld1 t106 (fun t107 _ =>
  fd 0 t5 (fun t109 _ =>
  ld1 t109 (fun t110 _ =>
  (mks 5 [(.int .u8 0)] 1 t107 t107 (fun t108 w =>
  Below w0.heap.size w0 w ∧
  (mks 5 [(.int .u8 0)] 1 t110 t110 (fun t111 w =>
  Below w0.heap.size w0 w ∧
  Below w0.heap.size w0 w ∧
  s3_p5 K B1 t4 t5 t7 t108 t111 t19 t20 t21 w) w) ∧
  (Below w0.heap.size w0 w ∧
  mks 5 [(.int .u8 0)] 1 t110 t110 (fun t111_2 w =>
  Below w0.heap.size w0 w ∧
  s3_p5 K B1 t4 t5 t7 t108 t111_2 t19 t20 t21 w) w)) w) ∧
  (mks 5 [(.int .u8 0)] 1 t110 t110 (fun t111_3 w =>
  Below w0.heap.size w0 w ∧
  mks 5 [(.int .u8 0)] 1 t107 t107 (fun t108_2 w =>
  Below w0.heap.size w0 w ∧
  Below w0.heap.size w0 w ∧
  s3_p5 K B1 t4 t5 t7 t108_2 t111_3 t19 t20 t21 w) w) w)) w0) w0) w0) w0
def s3_p6 (K : Value → World → Prop) (B1 : List Value → World → Prop) (t4 t5 t7 t19 t20 t21 : Value) (w : World) : Prop := s3_p6_d K B1 t4 t5 t7 t19 t20 t21 (drw w) (drw w)
def s3_p6_den (K : Value → World → Prop) (M1 : (Nat → Value) → World → Prop) : (Nat → Value) → World → Prop := denL Tryf.prog [(cd (Tryf.f3.body.getD .skip) [1, 1, 0, 1, 0, 0, 1, 1, 0, 0, 1, 1, 1, 1, 1, 1, 1, 1, 0])] (s3_p5_den K M1) (fun i => (bif Nat.beq i 1 then (s3_p2_den K M1) else (bif Nat.beq i 0 then (s3_p1_den K) else (fun _ _ => False)))) (s3_R K)
theorem s3_p6_ok (K : Value → World → Prop) (B1 : List Value → World → Prop) (s : Nat → Value) (w : World) (h : s3_p6 K B1 (s 4) (s 5) (s 7) (s 19) (s 20) (s 21) w) : Tr (s3_p6_den K (fun s w => B1 [s 19, s 20, s 21] w) s w) :=
  tr_draw (P := Tryf.prog) (ops := (ro (cd (Tryf.f3.body.getD .skip) [1, 1, 0, 1, 0, 0, 1, 1, 0, 0, 1, 1, 1, 1, 1, 1, 1, 1, 0]))) (ms := [0, 1, 3, 0, 8, 24, 7, 127]) (cs := [0, 1, 3, 4]) (N := (fun s w => s3_p5 K B1 (s 4) (s 5) (s 7) (s 12) (s 13) (s 19) (s 20) (s 21) w)) (N' := (s3_p5_den K (fun s w => B1 [s 19, s 20, s 21] w))) (s := s) (w := w) (p := s3_p6 K B1 (s 4) (s 5) (s 7) (s 19) (s 20) (s 21) w) (q := s3_p6_den K (fun s w => B1 [s 19, s 20, s 21] w) s w) (by kernel_rfl) (by kernel_rfl) (fun s w h => s3_p5_ok K B1 s w @h) (by kernel_rfl) (by kernel_rfl) @h
def s3_p7 (K : Value → World → Prop) (B1 : List Value → World → Prop) (t4 t5 t7 t19 t20 t21 t98 : Value) (w : World) : Prop :=
  ifb t98
  (K (.bool false) w)
  (cl Tryf.prog 10 #[t7] (fun t101 w =>
  exq t101 0 (fun t102 w =>
  exq t101 1 (fun t103 w =>
  exq t101 2 (fun t104 w =>
  ifb t102
  (K (.bool false) w)
  (s3_p6 K B1 t4 t5 t7 t19 t20 t21 w)) w) w) w) w)
def s3_p7_den (K : Value → World → Prop) (M1 : (Nat → Value) → World → Prop) : (Nat → Value) → World → Prop := denL Tryf.prog [(cd (Tryf.f3.body.getD .skip) [1, 1, 0, 1, 0, 0, 1, 1, 0, 0, 1, 1, 1, 1, 1, 1, 0, 1]), (cd (Tryf.f3.body.getD .skip) [1, 1, 0, 1, 0, 0, 1, 1, 0, 0, 1, 1, 1, 1, 1, 1, 1, 0, 0]), (cd (Tryf.f3.body.getD .skip) [1, 1, 0, 1, 0, 0, 1, 1, 0, 0, 1, 1, 1, 1, 1, 1, 1, 0, 1, 0]), (cd (Tryf.f3.body.getD .skip) [1, 1, 0, 1, 0, 0, 1, 1, 0, 0, 1, 1, 1, 1, 1, 1, 1, 0, 1, 1])] (s3_p6_den K M1) (fun i => (bif Nat.beq i 1 then (s3_p2_den K M1) else (bif Nat.beq i 0 then (s3_p1_den K) else (fun _ _ => False)))) (s3_R K)
theorem s3_p7_ok (K : Value → World → Prop) (B1 : List Value → World → Prop) (s : Nat → Value) (w : World) (h : s3_p7 K B1 (s 4) (s 5) (s 7) (s 19) (s 20) (s 21) (s 98) w) : Tr (s3_p7_den K (fun s w => B1 [s 19, s 20, s 21] w) s w) :=
  tr_simple (P := Tryf.prog) (codes := [(cd (Tryf.f3.body.getD .skip) [1, 1, 0, 1, 0, 0, 1, 1, 0, 0, 1, 1, 1, 1, 1, 1, 0, 1]), (cd (Tryf.f3.body.getD .skip) [1, 1, 0, 1, 0, 0, 1, 1, 0, 0, 1, 1, 1, 1, 1, 1, 1, 0, 0]), (cd (Tryf.f3.body.getD .skip) [1, 1, 0, 1, 0, 0, 1, 1, 0, 0, 1, 1, 1, 1, 1, 1, 1, 0, 1, 0]), (cd (Tryf.f3.body.getD .skip) [1, 1, 0, 1, 0, 0, 1, 1, 0, 0, 1, 1, 1, 1, 1, 1, 1, 0, 1, 1])]) (N := (fun s w => s3_p6 K B1 (s 4) (s 5) (s 7) (s 19) (s 20) (s 21) w)) (N' := (s3_p6_den K (fun s w => B1 [s 19, s 20, s 21] w))) (X := (fun i => (bif Nat.beq i 1 then (fun s w => s3_p2 K B1 (s 19) (s 20) (s 21) w) else (bif Nat.beq i 0 then (fun s w => s3_p1 K w) else (fun _ _ => False))))) (X' := (fun i => (bif Nat.beq i 1 then (s3_p2_den K (fun s w => B1 [s 19, s 20, s 21] w)) else (bif Nat.beq i 0 then (s3_p1_den K) else (fun _ _ => False))))) (R := s3_R K) (s := s) (w := w) (p := s3_p7 K B1 (s 4) (s 5) (s 7) (s 19) (s 20) (s 21) (s 98) w) (q := s3_p7_den K (fun s w => B1 [s 19, s 20, s 21] w) s w) (fun s w h => s3_p6_ok K B1 s w @h) (fun i => (tr_bif (fun s w h => s3_p2_ok K B1 s w @h) (tr_bif (fun s w h => s3_p1_ok K s w @h) tr_id))) (by kernel_rfl) (by kernel_rfl) @h
def s3_p8_d (K : Value → World → Prop) (B1 : List Value → World → Prop) (t4 t5 t7 t8 t19 t20 t21 : Value) (w0 w : World) : Prop :=
  boF Tryf.prog true .neq t8 .nilIface (fun t82 _ =>
  gd t82 false (fun K w => K t7 w) (fun t84 _ =>
  gd t82 false (ldn 3 t5) (fun t86 _ =>
  gd t82 false (cl Tryf.prog 7 #[t84]) (fun t85 w =>
  Below w0.heap.size w0 w ∧
  gd t82 false (bor Tryf.prog .neq 29 (.tmp 85) (.tmp 86) t85 t86) (fun t87 w =>
  pk t82 (.bool true) t87 (fun t88 w =>
  gd t88 false (fun K w => K t7 w) (fun t90 w =>
  gd t88 false (cl Tryf.prog 8 #[t90]) (fun t91 w =>
  gd t88 false (un .not t91) (fun t92 w =>
  pk t88 (.bool true) t92 (fun t93 w =>
  gd t93 false (fun K w => K t7 w) (fun t95 w =>
  gd t93 false (cl Tryf.prog 9 #[t95]) (fun t96 w =>
  gd t93 false (boI .neq t96 (.int .i64 0)) (fun t97 w =>
  pk t93 (.bool true) t97 (fun t98 w =>
  s3_p7 K B1 t4 t5 t7 t19 t20 t21 t98 w) w) w) w) w) w) w) w) w) w) w) w) w0) w0) w0
def s3_p8 (K : Value → World → Prop) (B1 : List Value → World → Prop) (t4 t5 t7 t8 t19 t20 t21 : Value) (w : World) : Prop := s3_p8_d K B1 t4 t5 t7 t8 t19 t20 t21 (drw w) (drw w)
def s3_p8_den (K : Value → World → Prop) (M1 : (Nat → Value) → World → Prop) : (Nat → Value) → World → Prop := denL Tryf.prog [(cd (Tryf.f3.body.getD .skip) [1, 1, 0, 1, 0, 0, 1, 1, 0, 0, 1, 1, 1, 1, 1, 1, 0, 0])] (s3_p7_den K M1) (fun i => (bif Nat.beq i 1 then (s3_p2_den K M1) else (bif Nat.beq i 0 then (s3_p1_den K) else (fun _ _ => False)))) (s3_R K)
theorem s3_p8_ok (K : Value → World → Prop) (B1 : List Value → World → Prop) (s : Nat → Value) (w : World) (h : s3_p8 K B1 (s 4) (s 5) (s 7) (s 8) (s 19) (s 20) (s 21) w) : Tr (s3_p8_den K (fun s w => B1 [s 19, s 20, s 21] w) s w) :=
  tr_draw (P := Tryf.prog) (ops := (ro (cd (Tryf.f3.body.getD .skip) [1, 1, 0, 1, 0, 0, 1, 1, 0, 0, 1, 1, 1, 1, 1, 1, 0, 0]))) (ms := [0, 1, 3, 7, 15, 7, 63, 127, 255, 511, 1023, 2047, 4095, 8191, 16383, 32767, 65535, 131071]) (cs := [0, 1, 2, 3, 5]) (N := (fun s w => s3_p7 K B1 (s 4) (s 5) (s 7) (s 19) (s 20) (s 21) (s 98) w)) (N' := (s3_p7_den K (fun s w => B1 [s 19, s 20, s 21] w))) (s := s) (w := w) (p := s3_p8 K B1 (s 4) (s 5) (s 7) (s 8) (s 19) (s 20) (s 21) w) (q := s3_p8_den K (fun s w => B1 [s 19, s 20, s 21] w) s w) (by kernel_rfl) (by kernel_rfl) (fun s w h => s3_p7_ok K B1 s w @h) (by kernel_rfl) (by kernel_rfl) @h
def s3_p9 (K : Value → World → Prop) (B1 : List Value → World → Prop) (t19 t20 t21 : Value) (w : World) : Prop :=
  ixs 9 t19 t21 (fun t23 w =>
  ldn 9 t23 (fun t24 w =>
  nw 31 #[(.int .u8 0), (.int .u64 0), (.int .u32 0), (.slice none 0 0), (.int .u64 0), (.slice none 0 0), (.int .u32 0), (.int .u64 0), (.int .u32 0)] (fun t4 w =>
  stn 9 t4 t24 (fun w =>
  fd 0 t4 (fun t25 w =>
  ld1 t25 (fun t26 w =>
  boI .neq t26 (.int .u8 0) (fun t27 w =>
  ifb t27
  (s3_p2 K B1 t19 t20 t21 w)
  (fd 6 t4 (fun t28 w =>
  ldn 3 t28 (fun t29 w =>
  nw 29 #[(.int .u32 0), (.int .u64 0), (.int .u32 0)] (fun t5 w =>
  stn 3 t5 t29 (fun w =>
  fd 0 t5 (fun t30 w =>
  ld1 t30 (fun t31 w =>
  boI .geq t31 (.int .u32 16) (fun t32 w =>
  gd t32 true (fd 0 t5) (fun t34 w =>
  gd t32 true (ld1 t34) (fun t35 w =>
  gd t32 true (boI .leq t35 (.int .u32 65536)) (fun t36 w =>
  pk t32 t36 (.bool false) (fun t37 w =>
  gd t37 true (fd 0 t5) (fun t39 w =>
  gd t37 true (ld1 t39) (fun t40 w =>
  gd t37 true (fd 0 t5) (fun t41 w =>
  gd t37 true (ld1 t41) (fun t42 w =>
  gd t37 true (boI .sub t42 (.int .u32 1)) (fun t43 w =>
  gd t37 true (boI .and t40 t43) (fun t44 w =>
  gd t37 true (boI .eql t44 (.int .u32 0)) (fun t45 w =>
  pk t37 t45 (.bool false) (fun t46 w =>
  gd t46 true (fd 1 t5) (fun t48 w =>
  gd t46 true (ld1 t48) (fun t49 w =>
  gd t46 true (boI .geq t49 (.int .u64 1)) (fun t50 w =>
  pk t46 t50 (.bool false) (fun t51 w =>
  gd t51 true (fd 1 t5) (fun t53 w =>
  gd t51 true (ld1 t53) (fun t54 w =>
  gd t51 true (boI .leq t54 (.int .u64 1099511627776)) (fun t55 w =>
  pk t51 t55 (.bool false) (fun t56 w =>
  gd t56 true (fd 2 t5) (fun t58 w =>
  gd t56 true (ld1 t58) (fun t59 w =>
  gd t56 true (boI .geq t59 (.int .u32 1)) (fun t60 w =>
  pk t56 t60 (.bool false) (fun t61 w =>
  gd t61 true (fd 2 t5) (fun t63 w =>
  gd t61 true (ld1 t63) (fun t64 w =>
  gd t61 true (boI .leq t64 (.int .u32 65536)) (fun t65 w =>
  pk t61 t65 (.bool false) (fun t66 w =>
  ldn 3 t5 (fun t68 w =>
  cl Tryf.prog 5 #[t68] (fun t69 w =>
  exq t69 0 (fun t70 w =>
  exq t69 1 (fun t71 w =>
  un .not t66 (fun t73 w =>
  ifb t73
  (boP .neq t70 (.pointer none) (fun t75 w =>
  gd t75 false (fun K w => K t71 w) (fun t77 w =>
  gd t75 false (cl Tryf.prog 6 #[t77]) (fun t78 w =>
  gd t75 false (boI .neq t78 (.int .u8 1)) (fun t79 w =>
  pk t75 (.bool true) t79 (fun t80 w =>
  ifb t80
  (K (.bool false) w)
  (s3_p2 K B1 t19 t20 t21 w)) w) w) w) w) w)
  (s3_p8 K B1 t4 t5 t70 t71 t19 t20 t21 w)) w) w) w) w) w) w) w) w) w) w) w) w) w) w) w) w) w) w) w) w) w) w) w) w) w) w) w) w) w) w) w) w) w) w) w) w) w) w) w) w)) w) w) w) w) w) w) w
def s3_p9_den (K : Value → World → Prop) (M1 : (Nat → Value) → World → Prop) : (Nat → Value) → World → Prop := denL Tryf.prog [(cd (Tryf.f3.body.getD .skip) [1, 1, 0, 1, 0, 0, 1, 1, 0, 0, 0]), (cd (Tryf.f3.body.getD .skip) [1, 1, 0, 1, 0, 0, 1, 1, 0, 0, 1, 0, 0]), (cd (Tryf.f3.body.getD .skip) [1, 1, 0, 1, 0, 0, 1, 1, 0, 0, 1, 0, 1]), (cd (Tryf.f3.body.getD .skip) [1, 1, 0, 1, 0, 0, 1, 1, 0, 0, 1, 1, 0]), (cd (Tryf.f3.body.getD .skip) [1, 1, 0, 1, 0, 0, 1, 1, 0, 0, 1, 1, 1, 0]), (cd (Tryf.f3.body.getD .skip) [1, 1, 0, 1, 0, 0, 1, 1, 0, 0, 1, 1, 1, 1, 0]), (cd (Tryf.f3.body.getD .skip) [1, 1, 0, 1, 0, 0, 1, 1, 0, 0, 1, 1, 1, 1, 1, 0, 0]), (cd (Tryf.f3.body.getD .skip) [1, 1, 0, 1, 0, 0, 1, 1, 0, 0, 1, 1, 1, 1, 1, 0, 1])] (s3_p8_den K M1) (fun i => (bif Nat.beq i 1 then (s3_p2_den K M1) else (bif Nat.beq i 0 then (s3_p1_den K) else (fun _ _ => False)))) (s3_R K)
theorem s3_p9_ok (K : Value → World → Prop) (B1 : List Value → World → Prop) (s : Nat → Value) (w : World) (h : s3_p9 K B1 (s 19) (s 20) (s 21) w) : Tr (s3_p9_den K (fun s w => B1 [s 19, s 20, s 21] w) s w) :=
  tr_simple (P := Tryf.prog) (codes := [(cd (Tryf.f3.body.getD .skip) [1, 1, 0, 1, 0, 0, 1, 1, 0, 0, 0]), (cd (Tryf.f3.body.getD .skip) [1, 1, 0, 1, 0, 0, 1, 1, 0, 0, 1, 0, 0]), (cd (Tryf.f3.body.getD .skip) [1, 1, 0, 1, 0, 0, 1, 1, 0, 0, 1, 0, 1]), (cd (Tryf.f3.body.getD .skip) [1, 1, 0, 1, 0, 0, 1, 1, 0, 0, 1, 1, 0]), (cd (Tryf.f3.body.getD .skip) [1, 1, 0, 1, 0, 0, 1, 1, 0, 0, 1, 1, 1, 0]), (cd (Tryf.f3.body.getD .skip) [1, 1, 0, 1, 0, 0, 1, 1, 0, 0, 1, 1, 1, 1, 0]), (cd (Tryf.f3.body.getD .skip) [1, 1, 0, 1, 0, 0, 1, 1, 0, 0, 1, 1, 1, 1, 1, 0, 0]), (cd (Tryf.f3.body.getD .skip) [1, 1, 0, 1, 0, 0, 1, 1, 0, 0, 1, 1, 1, 1, 1, 0, 1])]) (N := (fun s w => s3_p8 K B1 (s 4) (s 5) (s 7) (s 8) (s 19) (s 20) (s 21) w)) (N' := (s3_p8_den K (fun s w => B1 [s 19, s 20, s 21] w))) (X := (fun i => (bif Nat.beq i 1 then (fun s w => s3_p2 K B1 (s 19) (s 20) (s 21) w) else (bif Nat.beq i 0 then (fun s w => s3_p1 K w) else (fun _ _ => False))))) (X' := (fun i => (bif Nat.beq i 1 then (s3_p2_den K (fun s w => B1 [s 19, s 20, s 21] w)) else (bif Nat.beq i 0 then (s3_p1_den K) else (fun _ _ => False))))) (R := s3_R K) (s := s) (w := w) (p := s3_p9 K B1 (s 19) (s 20) (s 21) w) (q := s3_p9_den K (fun s w => B1 [s 19, s 20, s 21] w) s w) (fun s w h => s3_p8_ok K B1 s w @h) (fun i => (tr_bif (fun s w h => s3_p2_ok K B1 s w @h) (tr_bif (fun s w h => s3_p1_ok K s w @h) tr_id))) (by kernel_rfl) (by kernel_rfl) @h
def s3_p10 (K : Value → World → Prop) (B1 : List Value → World → Prop) (t19 t20 t21 : Value) (w : World) : Prop :=
  boI .lss t21 t20 (fun t22 w =>
  ifb t22
  (s3_p9 K B1 t19 t20 t21 w)
  (s3_p1 K w)) w
def s3_p10_den (K : Value → World → Prop) (M1 : (Nat → Value) → World → Prop) : (Nat → Value) → World → Prop := denL Tryf.prog [(cd (Tryf.f3.body.getD .skip) [1, 1, 0, 1, 0, 0, 0]), (cd (Tryf.f3.body.getD .skip) [1, 1, 0, 1, 0, 0, 1, 0])] (s3_p9_den K M1) (fun i => (bif Nat.beq i 0 then (s3_p1_den K) else (fun _ _ => False))) (s3_R K)
theorem s3_p10_ok (K : Value → World → Prop) (B1 : List Value → World → Prop) (s : Nat → Value) (w : World) (h : s3_p10 K B1 (s 19) (s 20) (s 21) w) : Tr (s3_p10_den K (fun s w => B1 [s 19, s 20, s 21] w) s w) :=
  tr_simple (P := Tryf.prog) (codes := [(cd (Tryf.f3.body.getD .skip) [1, 1, 0, 1, 0, 0, 0]), (cd (Tryf.f3.body.getD .skip) [1, 1, 0, 1, 0, 0, 1, 0])]) (N := (fun s w => s3_p9 K B1 (s 19) (s 20) (s 21) w)) (N' := (s3_p9_den K (fun s w => B1 [s 19, s 20, s 21] w))) (X := (fun i => (bif Nat.beq i 0 then (fun s w => s3_p1 K w) else (fun _ _ => False)))) (X' := (fun i => (bif Nat.beq i 0 then (s3_p1_den K) else (fun _ _ => False)))) (R := s3_R K) (s := s) (w := w) (p := s3_p10 K B1 (s 19) (s 20) (s 21) w) (q := s3_p10_den K (fun s w => B1 [s 19, s 20, s 21] w) s w) (fun s w h => s3_p9_ok K B1 s w @h) (fun i => (tr_bif (fun s w h => s3_p1_ok K s w @h) tr_id)) (by kernel_rfl) (by kernel_rfl) @h
def s3_p11_F (K : Value → World → Prop) (B1 : List Value → World → Prop) (l : List Value) (w : World) : Prop :=
  match l with
  | [t19, t20, t21] => s3_p10 K B1 t19 t20 t21 w
  | _ => False
theorem s3_p11_Fe {K : Value → World → Prop} {B1 : List Value → World → Prop} {t19 t20 t21 : Value} {w : World} : s3_p11_F K B1 [t19, t20, t21] w = s3_p10 K B1 t19 t20 t21 w := by kernel_rfl
def s3_p11 (K : Value → World → Prop) (t19 t20 t21 : Value) (w : World) : Prop :=
  LoopL (s3_p11_F K) [t19, t20, t21] w
def s3_p11_den (K : Value → World → Prop) : (Nat → Value) → World → Prop := fun s w => LoopP (fun M1 s w => s3_p10_den K M1 s w) s w
theorem s3_p11_ok (K : Value → World → Prop) (s : Nat → Value) (w : World) (h : s3_p11 K (s 19) (s 20) (s 21) w) : Tr (s3_p11_den K s w) :=
  tr_loop (G := fun N' s w => s3_p10_den K N' s w) (F := s3_p11_F K) (sel := fun s => [s 19, s 20, s 21]) (s := s) (w := w) (p := s3_p11 K (s 19) (s 20) (s 21) w) (q := s3_p11_den K s w) (fun B s w h => s3_p10_ok K B s w @h) (by kernel_rfl) (by kernel_rfl) @h
def s3_p12 (K : Value → World → Prop) (t0 : Value) (w : World) : Prop :=
  cl Tryf.prog 4 #[t0] (fun t17 w =>
  un .not t17 (fun t18 w =>
  ifb t18
  (K (.bool true) w)
  (lnS t0 (fun t20 w =>
  s3_p11 K t0 t20 (.int .i64 0) w) w)) w) w
def s3_p12_den (K : Value → World → Prop) : (Nat → Value) → World → Prop := denL Tryf.prog [(cd (Tryf.f3.body.getD .skip) [0]), (cd (Tryf.f3.body.getD .skip) [1, 0, 0]), (cd (Tryf.f3.body.getD .skip) [1, 0, 1]), (cd (Tryf.f3.body.getD .skip) [1, 1, 0, 0])] (s3_p11_den K) (fun i => (fun _ _ => False)) (s3_R K)
theorem s3_p12_ok (K : Value → World → Prop) (s : Nat → Value) (w : World) (h : s3_p12 K (s 0) w) : Tr (s3_p12_den K s w) :=
  tr_simple (P := Tryf.prog) (codes := [(cd (Tryf.f3.body.getD .skip) [0]), (cd (Tryf.f3.body.getD .skip) [1, 0, 0]), (cd (Tryf.f3.body.getD .skip) [1, 0, 1]), (cd (Tryf.f3.body.getD .skip) [1, 1, 0, 0])]) (N := (fun s w => s3_p11 K (s 19) (s 20) (s 21) w)) (N' := (s3_p11_den K)) (X := (fun i => (fun _ _ => False))) (X' := (fun i => (fun _ _ => False))) (R := s3_R K) (s := s) (w := w) (p := s3_p12 K (s 0) w) (q := s3_p12_den K s w) (fun s w h => s3_p11_ok K s w @h) (fun i => tr_id) (by kernel_rfl) (by kernel_rfl) @h
/-- the call, from the text -/
theorem c3 (t0 : Value) {K : Value → World → Prop} {w : World} (h : s3_p12 K t0 w) : cl Tryf.prog 3 #[t0] K w :=
  calls_of_tr (c := (Tryf.f3.body.getD .skip)) (fn := Tryf.f3) (q := s3_p12_den K (st0 #[t0]) w) Tryf.func3 (by kernel_rfl) (by kernel_rfl) (Nat.le_of_ble_eq_true (by kernel_rfl)) (by kernel_rfl) (by kernel_rfl) (s3_p12_ok K (st0 #[t0]) w @h)

/-! ### function 4 : e2e.disklaw.zzSmall1 -/
def s4_R (K : Value → World → Prop) (s : Nat → Value) (w : World) : Prop := retv Tryf.prog s Tryf.f4.results.toList (fun vs => K (pack vs) w) w
def s4_p1 (K : Value → World → Prop) (w : World) : Prop :=
  K (.bool true) w
def s4_p1_den (K : Value → World → Prop) : (Nat → Value) → World → Prop := denL Tryf.prog [(cd (Tryf.f4.body.getD .skip) [1, 1, 1, 1, 0]), (cd (Tryf.f4.body.getD .skip) [1, 1, 1, 1, 1])] (fun _ _ => False) (fun i => (fun _ _ => False)) (s4_R K)
theorem s4_p1_ok (K : Value → World → Prop) (s : Nat → Value) (w : World) (h : s4_p1 K w) : Tr (s4_p1_den K s w) :=
  tr_simple (P := Tryf.prog) (codes := [(cd (Tryf.f4.body.getD .skip) [1, 1, 1, 1, 0]), (cd (Tryf.f4.body.getD .skip) [1, 1, 1, 1, 1])]) (N := (fun _ _ => False)) (N' := (fun _ _ => False)) (X := (fun i => (fun _ _ => False))) (X' := (fun i => (fun _ _ => False))) (R := s4_R K) (s := s) (w := w) (p := s4_p1 K w) (q := s4_p1_den K s w) tr_id (fun i => tr_id) (by kernel_rfl) (by kernel_rfl) @h
def s4_p2 (K : Value → World → Prop) (B1 : List Value → World → Prop) (t0 t3 t4 : Value) (w : World) : Prop :=
  lnS t0 (fun t11 w =>
  boI .lss t4 t11 (fun t12 w =>
  ifb t12
  (ixs 9 t0 t4 (fun t18 w =>
  fd 3 t18 (fun t19 w =>
  ld1 t19 (fun t20 w =>
  lnS t20 (fun t21 w =>
  boI .add t3 t21 (fun t22 w =>
  boI .gtr t22 (.int .i64 65536) (fun t24 w =>
  ifb t24
  (K (.bool false) w)
  (ixs 9 t0 t4 (fun t28 w =>
  fd 5 t28 (fun t29 w =>
  ld1 t29 (fun t30 w =>
  lnS t30 (fun t31 w =>
  boI .add t22 t31 (fun t32 w =>
  boI .gtr t32 (.int .i64 65536) (fun t34 w =>
  ifb t34
  (K (.bool false) w)
  (boI .add t4 (.int .i64 1) (fun t14 w =>
  B1 [t0, t32, t14] w) w)) w) w) w) w) w) w)) w) w) w) w) w) w)
  (s4_p1 K w)) w) w
def s4_p2_den (K : Value → World → Prop) (M1 : (Nat → Value) → World → Prop) : (Nat → Value) → World → Prop := denL Tryf.prog [(cd (Tryf.f4.body.getD .skip) [1, 1, 1, 0, 1, 0, 0, 0, 0]), (cd (Tryf.f4.body.getD .skip) [1, 1, 1, 0, 1, 0, 0, 0, 1]), (cd (Tryf.f4.body.getD .skip) [1, 1, 1, 0, 1, 0, 0, 1, 0]), (cd (Tryf.f4.body.getD .skip) [1, 1, 1, 0, 1, 0, 0, 1, 1])] M1 (fun i => (bif Nat.beq i 0 then (s4_p1_den K) else (fun _ _ => False))) (s4_R K)
theorem s4_p2_ok (K : Value → World → Prop) (B1 : List Value → World → Prop) (s : Nat → Value) (w : World) (h : s4_p2 K B1 (s 0) (s 3) (s 4) w) : Tr (s4_p2_den K (fun s w => B1 [s 0, s 3, s 4] w) s w) :=
  tr_simple (P := Tryf.prog) (codes := [(cd (Tryf.f4.body.getD .skip) [1, 1, 1, 0, 1, 0, 0, 0, 0]), (cd (Tryf.f4.body.getD .skip) [1, 1, 1, 0, 1, 0, 0, 0, 1]), (cd (Tryf.f4.body.getD .skip) [1, 1, 1, 0, 1, 0, 0, 1, 0]), (cd (Tryf.f4.body.getD .skip) [1, 1, 1, 0, 1, 0, 0, 1, 1])]) (N := (fun s w => B1 [s 0, s 3, s 4] w)) (N' := (fun s w => B1 [s 0, s 3, s 4] w)) (X := (fun i => (bif Nat.beq i 0 then (fun s w => s4_p1 K w) else (fun _ _ => False)))) (X' := (fun i => (bif Nat.beq i 0 then (s4_p1_den K) else (fun _ _ => False)))) (R := s4_R K) (s := s) (w := w) (p := s4_p2 K B1 (s 0) (s 3) (s 4) w) (q := s4_p2_den K (fun s w => B1 [s 0, s 3, s 4] w) s w) tr_id (fun i => (tr_bif (fun s w h => s4_p1_ok K s w @h) tr_id)) (by kernel_rfl) (by kernel_rfl) @h
def s4_p3_F (K : Value → World → Prop) (B1 : List Value → World → Prop) (l : List Value) (w : World) : Prop :=
  match l with
  | [t0, t3, t4] => s4_p2 K B1 t0 t3 t4 w
  | _ => False
theorem s4_p3_Fe {K : Value → World → Prop} {B1 : List Value → World → Prop} {t0 t3 t4 : Value} {w : World} : s4_p3_F K B1 [t0, t3, t4] w = s4_p2 K B1 t0 t3 t4 w := by kernel_rfl
def s4_p3 (K : Value → World → Prop) (t0 t3 t4 : Value) (w : World) : Prop :=
  LoopL (s4_p3_F K) [t0, t3, t4] w
def s4_p3_den (K : Value → World → Prop) : (Nat → Value) → World → Prop := fun s w => LoopP (fun M1 s w => s4_p2_den K M1 s w) s w
theorem s4_p3_ok (K : Value → World → Prop) (s : Nat → Value) (w : World) (h : s4_p3 K (s 0) (s 3) (s 4) w) : Tr (s4_p3_den K s w) :=
  tr_loop (G := fun N' s w => s4_p2_den K N' s w) (F := s4_p3_F K) (sel := fun s => [s 0, s 3, s 4]) (s := s) (w := w) (p := s4_p3 K (s 0) (s 3) (s 4) w) (q := s4_p3_den K s w) (fun B s w h => s4_p2_ok K B s w @h) (by kernel_rfl) (by kernel_rfl) @h
def s4_p4 (K : Value → World → Prop) (t0 : Value) (w : World) : Prop :=
  lnS t0 (fun t6 w =>
  boI .gtr t6 (.int .i64 65536) (fun t8 w =>
  ifb t8
  (K (.bool false) w)
  (s4_p3 K t0 t6 (.int .i64 0) w)) w) w
def s4_p4_den (K : Value → World → Prop) : (Nat → Value) → World → Prop := denL Tryf.prog [(cd (Tryf.f4.body.getD .skip) [0]), (cd (Tryf.f4.body.getD .skip) [1, 0]), (cd (Tryf.f4.body.getD .skip) [1, 1, 0, 0]), (cd (Tryf.f4.body.getD .skip) [1, 1, 0, 1]), (cd (Tryf.f4.body.getD .skip) [1, 1, 1, 0, 0])] (s4_p3_den K) (fun i => (fun _ _ => False)) (s4_R K)
theorem s4_p4_ok (K : Value → World → Prop) (s : Nat → Value) (w : World) (h : s4_p4 K (s 0) w) : Tr (s4_p4_den K s w) :=
  tr_simple (P := Tryf.prog) (codes := [(cd (Tryf.f4.body.getD .skip) [0]), (cd (Tryf.f4.body.getD .skip) [1, 0]), (cd (Tryf.f4.body.getD .skip) [1, 1, 0, 0]), (cd (Tryf.f4.body.getD .skip) [1, 1, 0, 1]), (cd (Tryf.f4.body.getD .skip) [1, 1, 1, 0, 0])]) (N := (fun s w => s4_p3 K (s 0) (s 3) (s 4) w)) (N' := (s4_p3_den K)) (X := (fun i => (fun _ _ => False))) (X' := (fun i => (fun _ _ => False))) (R := s4_R K) (s := s) (w := w) (p := s4_p4 K (s 0) w) (q := s4_p4_den K s w) (fun s w h => s4_p3_ok K s w @h) (fun i => tr_id) (by kernel_rfl) (by kernel_rfl) @h
/-- the call, from the text -/
theorem c4 (t0 : Value) {K : Value → World → Prop} {w : World} (h : s4_p4 K t0 w) : cl Tryf.prog 4 #[t0] K w :=
  calls_of_tr (c := (Tryf.f4.body.getD .skip)) (fn := Tryf.f4) (q := s4_p4_den K (st0 #[t0]) w) Tryf.func4 (by kernel_rfl) (by kernel_rfl) (Nat.le_of_ble_eq_true (by kernel_rfl)) (by kernel_rfl) (by kernel_rfl) (s4_p4_ok K (st0 #[t0]) w @h)

/-! ### function 5 : e2e.disk.New -/
def s5_R (K : Value → World → Prop) (s : Nat → Value) (w : World) : Prop := retv Tryf.prog s Tryf.f5.results.toList (fun vs => K (pack vs) w) w
def s5_p1 (K : Value → World → Prop) (t2 t3 : Value) (w : World) : Prop :=
  K (.tuple #[t2, t3]) w
def s5_p1_den (K : Value → World → Prop) : (Nat → Value) → World → Prop := denL Tryf.prog [(cd (Tryf.f5.body.getD .skip) [1, 1, 1, 1])] (fun _ _ => False) (fun i => (fun _ _ => False)) (s5_R K)
theorem s5_p1_ok (K : Value → World → Prop) (s : Nat → Value) (w : World) (h : s5_p1 K (s 2) (s 3) w) : Tr (s5_p1_den K s w) :=
  tr_simple (P := Tryf.prog) (codes := [(cd (Tryf.f5.body.getD .skip) [1, 1, 1, 1])]) (N := (fun _ _ => False)) (N' := (fun _ _ => False)) (X := (fun i => (fun _ _ => False))) (X' := (fun i => (fun _ _ => False))) (R := s5_R K) (s := s) (w := w) (p := s5_p1 K (s 2) (s 3) w) (q := s5_p1_den K s w) tr_id (fun i => tr_id) (by kernel_rfl) (by kernel_rfl) @h
def s5_p2_d (K : Value → World → Prop) (t1 t5 : Value) (w0 w : World) : Prop :=
  ldn 3 t1 (fun t14 _ =>
  fd 2 t1 (fun t19 _ =>
  ld1 t19 (fun t20 _ =>
  cvi .i64 t20 (fun t21 _ =>
  cl Tryf.prog 14 #[t5] (fun t17 w =>
  Below w0.heap.size w0 w ∧
  cl Tryf.prog 15 #[t5, t21] (fun t22 w =>
  Below w0.heap.size w0 w ∧
  bdq [(.int .u32 0), (.int .u64 0), (.int .u32 0), (.int .i64 0), (.pointer none), (.pointer none), (.bool false), (.bool false), (.int .u64 0), (.slice none 0 0), (.int .u64 0), (.int .u64 0), (.int .u64 0), (.int .u64 0), (.int .u64 0), (.int .u64 0), (.int .u64 0), (.int .u64 0), (.int .u64 0), (.int .u64 0)] [(some (0, 3), t14), (some (3, 1), t5), (some (4, 1), t17), (some (5, 1), t22), (some (6, 1), (.bool true))] (fun t23 w =>
  nw 57 (t23).cells (fun t24 w =>
  s5_p1 K t24 .nilIface w) w) w) w) w) w0) w0) w0) w0
def s5_p2 (K : Value → World → Prop) (t1 t5 : Value) (w : World) : Prop := s5_p2_d K t1 t5 (drw w) (drw w)
def s5_p2_den (K : Value → World → Prop) : (Nat → Value) → World → Prop := denL Tryf.prog [(cd (Tryf.f5.body.getD .skip) [1, 1, 1, 0])] (s5_p1_den K) (fun i => (fun _ _ => False)) (s5_R K)
theorem s5_p2_ok (K : Value → World → Prop) (s : Nat → Value) (w : World) (h : s5_p2 K (s 1) (s 5) w) : Tr (s5_p2_den K s w) :=
  tr_draw (P := Tryf.prog) (ops := (ro (cd (Tryf.f5.body.getD .skip) [1, 1, 1, 0]))) (ms := [0, 0, 0, 4, 0, 0, 32, 96, 252, 511, 1023, 2047, 4095]) (cs := [0, 1, 2, 4, 5, 6, 7, 12]) (N := (fun s w => s5_p1 K (s 2) (s 3) w)) (N' := (s5_p1_den K)) (s := s) (w := w) (p := s5_p2 K (s 1) (s 5) w) (q := s5_p2_den K s w) (by kernel_rfl) (by kernel_rfl) (fun s w h => s5_p1_ok K s w @h) (by kernel_rfl) (by kernel_rfl) @h
def s5_p3 (K : Value → World → Prop) (t0 : Value) (w : World) : Prop :=
  nw 29 (t0).cells (fun t1 w =>
  ldn 3 t1 (fun t6 w =>
  cl Tryf.prog 13 #[t6] (fun t7 w =>
  boF Tryf.prog true .neq t7 .nilIface (fun t9 w =>
  ifb t9
  (K (.tuple #[(.pointer none), t7]) w)
  (fd 0 t1 (fun t11 w =>
  ld1 t11 (fun t12 w =>
  cvi .i64 t12 (fun t13 w =>
  s5_p2 K t1 t13 w) w) w) w)) w) w) w) w
def s5_p3_den (K : Value → World → Prop) : (Nat → Value) → World → Prop := denL Tryf.prog [(cd (Tryf.f5.body.getD .skip) [0]), (cd (Tryf.f5.body.getD .skip) [1, 0, 0]), (cd (Tryf.f5.body.getD .skip) [1, 0, 1, 0]), (cd (Tryf.f5.body.getD .skip) [1, 0, 1, 1]), (cd (Tryf.f5.body.getD .skip) [1, 1, 0])] (s5_p2_den K) (fun i => (fun _ _ => False)) (s5_R K)
theorem s5_p3_ok (K : Value → World → Prop) (s : Nat → Value) (w : World) (h : s5_p3 K (s 0) w) : Tr (s5_p3_den K s w) :=
  tr_simple (P := Tryf.prog) (codes := [(cd (Tryf.f5.body.getD .skip) [0]), (cd (Tryf.f5.body.getD .skip) [1, 0, 0]), (cd (Tryf.f5.body.getD .skip) [1, 0, 1, 0]), (cd (Tryf.f5.body.getD .skip) [1, 0, 1, 1]), (cd (Tryf.f5.body.getD .skip) [1, 1, 0])]) (N := (fun s w => s5_p2 K (s 1) (s 5) w)) (N' := (s5_p2_den K)) (X := (fun i => (fun _ _ => False))) (X' := (fun i => (fun _ _ => False))) (R := s5_R K) (s := s) (w := w) (p := s5_p3 K (s 0) w) (q := s5_p3_den K s w) (fun s w h => s5_p2_ok K s w @h) (fun i => tr_id) (by kernel_rfl) (by kernel_rfl) @h
/-- the call, from the text -/
theorem c5 (t0 : Value) {K : Value → World → Prop} {w : World} (h : s5_p3 K t0 w) : cl Tryf.prog 5 #[t0] K w :=
  calls_of_tr (c := (Tryf.f5.body.getD .skip)) (fn := Tryf.f5) (q := s5_p3_den K (st0 #[t0]) w) Tryf.func5 (by kernel_rfl) (by kernel_rfl) (Nat.le_of_ble_eq_true (by kernel_rfl)) (by kernel_rfl) (by kernel_rfl) (s5_p3_ok K (st0 #[t0]) w @h)

/-! ### function 6 : e2e.disk.CodeOf -/
def s6_R (K : Value → World → Prop) (s : Nat → Value) (w : World) : Prop := retv Tryf.prog s Tryf.f6.results.toList (fun vs => K (pack vs) w) w
def s6_p1 (K : Value → World → Prop) (t0 : Value) (w : World) : Prop :=
  boF Tryf.prog true .eql t0 .nilIface (fun t5 w =>
  ifb t5
  (K (.int .u8 0) w)
  (nw 58 #[(.pointer none)] (fun t3 w =>
  cl Tryf.prog 16 #[t0, (.iface 60 t3)] (fun t8 w =>
  ifb t8
  (ld1 t3 (fun t9 w =>
  nck t9 (fun t10 w =>
  fd 0 t10 (fun t11 w =>
  ld1 t11 (fun t12 w =>
  K t12 w) w) w) w) w)
  (K (.int .u8 6) w)) w) w)) w
def s6_p1_den (K : Value → World → Prop) : (Nat → Value) → World → Prop := denL Tryf.prog [(cd (Tryf.f6.body.getD .skip) [0]), (cd (Tryf.f6.body.getD .skip) [1, 0, 0]), (cd (Tryf.f6.body.getD .skip) [1, 0, 1]), (cd (Tryf.f6.body.getD .skip) [1, 1, 0]), (cd (Tryf.f6.body.getD .skip) [1, 1, 1, 0, 0]), (cd (Tryf.f6.body.getD .skip) [1, 1, 1, 0, 1]), (cd (Tryf.f6.body.getD .skip) [1, 1, 1, 1, 0]), (cd (Tryf.f6.body.getD .skip) [1, 1, 1, 1, 1])] (fun _ _ => False) (fun i => (fun _ _ => False)) (s6_R K)
theorem s6_p1_ok (K : Value → World → Prop) (s : Nat → Value) (w : World) (h : s6_p1 K (s 0) w) : Tr (s6_p1_den K s w) :=
  tr_simple (P := Tryf.prog) (codes := [(cd (Tryf.f6.body.getD .skip) [0]), (cd (Tryf.f6.body.getD .skip) [1, 0, 0]), (cd (Tryf.f6.body.getD .skip) [1, 0, 1]), (cd (Tryf.f6.body.getD .skip) [1, 1, 0]), (cd (Tryf.f6.body.getD .skip) [1, 1, 1, 0, 0]), (cd (Tryf.f6.body.getD .skip) [1, 1, 1, 0, 1]), (cd (Tryf.f6.body.getD .skip) [1, 1, 1, 1, 0]), (cd (Tryf.f6.body.getD .skip) [1, 1, 1, 1, 1])]) (N := (fun _ _ => False)) (N' := (fun _ _ => False)) (X := (fun i => (fun _ _ => False))) (X' := (fun i => (fun _ _ => False))) (R := s6_R K) (s := s) (w := w) (p := s6_p1 K (s 0) w) (q := s6_p1_den K s w) tr_id (fun i => tr_id) (by kernel_rfl) (by kernel_rfl) @h
/-- the call, from the text -/
theorem c6 (t0 : Value) {K : Value → World → Prop} {w : World} (h : s6_p1 K t0 w) : cl Tryf.prog 6 #[t0] K w :=
  calls_of_tr (c := (Tryf.f6.body.getD .skip)) (fn := Tryf.f6) (q := s6_p1_den K (st0 #[t0]) w) Tryf.func6 (by kernel_rfl) (by kernel_rfl) (Nat.le_of_ble_eq_true (by kernel_rfl)) (by kernel_rfl) (by kernel_rfl) (s6_p1_ok K (st0 #[t0]) w @h)

/-! ### function 7 : (*e2e.disk.Disk).Geometry -/
def s7_R (K : Value → World → Prop) (s : Nat → Value) (w : World) : Prop := retv Tryf.prog s Tryf.f7.results.toList (fun vs => K (pack vs) w) w
def s7_p1 (K : Value → World → Prop) (t0 : Value) (w : World) : Prop :=
  nw 29 #[(.int .u32 0), (.int .u64 0), (.int .u32 0)] (fun t2 w =>
  nck t0 (fun t4 w =>
  fd 0 t4 (fun t5 w =>
  ldn 3 t5 (fun t6 w =>
  stn 3 t2 t6 (fun w =>
  ldn 3 t2 (fun r0 _ =>
  K r0 w) w) w) w) w) w) w
def s7_p1_den (K : Value → World → Prop) : (Nat → Value) → World → Prop := denL Tryf.prog [(cd (Tryf.f7.body.getD .skip) [0]), (cd (Tryf.f7.body.getD .skip) [1, 0]), (cd (Tryf.f7.body.getD .skip) [1, 1])] (fun _ _ => False) (fun i => (fun _ _ => False)) (s7_R K)
theorem s7_p1_ok (K : Value → World → Prop) (s : Nat → Value) (w : World) (h : s7_p1 K (s 0) w) : Tr (s7_p1_den K s w) :=
  tr_simple (P := Tryf.prog) (codes := [(cd (Tryf.f7.body.getD .skip) [0]), (cd (Tryf.f7.body.getD .skip) [1, 0]), (cd (Tryf.f7.body.getD .skip) [1, 1])]) (N := (fun _ _ => False)) (N' := (fun _ _ => False)) (X := (fun i => (fun _ _ => False))) (X' := (fun i => (fun _ _ => False))) (R := s7_R K) (s := s) (w := w) (p := s7_p1 K (s 0) w) (q := s7_p1_den K s w) tr_id (fun i => tr_id) (by kernel_rfl) (by kernel_rfl) @h
/-- the call, from the text -/
theorem c7 (t0 : Value) {K : Value → World → Prop} {w : World} (h : s7_p1 K t0 w) : cl Tryf.prog 7 #[t0] K w :=
  calls_of_tr (c := (Tryf.f7.body.getD .skip)) (fn := Tryf.f7) (q := s7_p1_den K (st0 #[t0]) w) Tryf.func7 (by kernel_rfl) (by kernel_rfl) (Nat.le_of_ble_eq_true (by kernel_rfl)) (by kernel_rfl) (by kernel_rfl) (s7_p1_ok K (st0 #[t0]) w @h)

/-! ### function 8 : (*e2e.disk.Disk).Powered -/
def s8_R (K : Value → World → Prop) (s : Nat → Value) (w : World) : Prop := retv Tryf.prog s Tryf.f8.results.toList (fun vs => K (pack vs) w) w
def s8_p1 (K : Value → World → Prop) (t0 : Value) (w : World) : Prop :=
  nck t0 (fun t4 w =>
  fd 6 t4 (fun t5 w =>
  ld1 t5 (fun t6 w =>
  K t6 w) w) w) w
def s8_p1_den (K : Value → World → Prop) : (Nat → Value) → World → Prop := denL Tryf.prog [(cd (Tryf.f8.body.getD .skip) [0]), (cd (Tryf.f8.body.getD .skip) [1, 0]), (cd (Tryf.f8.body.getD .skip) [1, 1])] (fun _ _ => False) (fun i => (fun _ _ => False)) (s8_R K)
theorem s8_p1_ok (K : Value → World → Prop) (s : Nat → Value) (w : World) (h : s8_p1 K (s 0) w) : Tr (s8_p1_den K s w) :=
  tr_simple (P := Tryf.prog) (codes := [(cd (Tryf.f8.body.getD .skip) [0]), (cd (Tryf.f8.body.getD .skip) [1, 0]), (cd (Tryf.f8.body.getD .skip) [1, 1])]) (N := (fun _ _ => False)) (N' := (fun _ _ => False)) (X := (fun i => (fun _ _ => False))) (X' := (fun i => (fun _ _ => False))) (R := s8_R K) (s := s) (w := w) (p := s8_p1 K (s 0) w) (q := s8_p1_den K s w) tr_id (fun i => tr_id) (by kernel_rfl) (by kernel_rfl) @h
/-- the call, from the text -/
theorem c8 (t0 : Value) {K : Value → World → Prop} {w : World} (h : s8_p1 K t0 w) : cl Tryf.prog 8 #[t0] K w :=
  calls_of_tr (c := (Tryf.f8.body.getD .skip)) (fn := Tryf.f8) (q := s8_p1_den K (st0 #[t0]) w) Tryf.func8 (by kernel_rfl) (by kernel_rfl) (Nat.le_of_ble_eq_true (by kernel_rfl)) (by kernel_rfl) (by kernel_rfl) (s8_p1_ok K (st0 #[t0]) w @h)

/-! ### function 9 : (*e2e.disk.Disk).PendingCount -/
def s9_R (K : Value → World → Prop) (s : Nat → Value) (w : World) : Prop := retv Tryf.prog s Tryf.f9.results.toList (fun vs => K (pack vs) w) w
def s9_p1 (K : Value → World → Prop) (t0 : Value) (w : World) : Prop :=
  nck t0 (fun t4 w =>
  fd 5 t4 (fun t5 w =>
  ld1 t5 (fun t6 w =>
  cl Tryf.prog 17 #[t6] (fun t7 w =>
  K t7 w) w) w) w) w
def s9_p1_den (K : Value → World → Prop) : (Nat → Value) → World → Prop := denL Tryf.prog [(cd (Tryf.f9.body.getD .skip) [0]), (cd (Tryf.f9.body.getD .skip) [1, 0]), (cd (Tryf.f9.body.getD .skip) [1, 1])] (fun _ _ => False) (fun i => (fun _ _ => False)) (s9_R K)
theorem s9_p1_ok (K : Value → World → Prop) (s : Nat → Value) (w : World) (h : s9_p1 K (s 0) w) : Tr (s9_p1_den K s w) :=
  tr_simple (P := Tryf.prog) (codes := [(cd (Tryf.f9.body.getD .skip) [0]), (cd (Tryf.f9.body.getD .skip) [1, 0]), (cd (Tryf.f9.body.getD .skip) [1, 1])]) (N := (fun _ _ => False)) (N' := (fun _ _ => False)) (X := (fun i => (fun _ _ => False))) (X' := (fun i => (fun _ _ => False))) (R := s9_R K) (s := s) (w := w) (p := s9_p1 K (s 0) w) (q := s9_p1_den K s w) tr_id (fun i => tr_id) (by kernel_rfl) (by kernel_rfl) @h
/-- the call, from the text -/
theorem c9 (t0 : Value) {K : Value → World → Prop} {w : World} (h : s9_p1 K t0 w) : cl Tryf.prog 9 #[t0] K w :=
  calls_of_tr (c := (Tryf.f9.body.getD .skip)) (fn := Tryf.f9) (q := s9_p1_den K (st0 #[t0]) w) Tryf.func9 (by kernel_rfl) (by kernel_rfl) (Nat.le_of_ble_eq_true (by kernel_rfl)) (by kernel_rfl) (by kernel_rfl) (s9_p1_ok K (st0 #[t0]) w @h)

/-! ### function 10 : (*e2e.disk.Disk).Fuse -/
def s10_R (K : Value → World → Prop) (s : Nat → Value) (w : World) : Prop := retv Tryf.prog s Tryf.f10.results.toList (fun vs => K (pack vs) w) w
def s10_p1 (K : Value → World → Prop) (t2 t3 t4 : Value) (w : World) : Prop :=
  K (.tuple #[t2, t3, t4]) w
def s10_p1_den (K : Value → World → Prop) : (Nat → Value) → World → Prop := denL Tryf.prog [(cd (Tryf.f10.body.getD .skip) [1, 1])] (fun _ _ => False) (fun i => (fun _ _ => False)) (s10_R K)
theorem s10_p1_ok (K : Value → World → Prop) (s : Nat → Value) (w : World) (h : s10_p1 K (s 2) (s 3) (s 4) w) : Tr (s10_p1_den K s w) :=
  tr_simple (P := Tryf.prog) (codes := [(cd (Tryf.f10.body.getD .skip) [1, 1])]) (N := (fun _ _ => False)) (N' := (fun _ _ => False)) (X := (fun i => (fun _ _ => False))) (X' := (fun i => (fun _ _ => False))) (R := s10_R K) (s := s) (w := w) (p := s10_p1 K (s 2) (s 3) (s 4) w) (q := s10_p1_den K s w) tr_id (fun i => tr_id) (by kernel_rfl) (by kernel_rfl) @h
def s10_p2_d (K : Value → World → Prop) (t0 : Value) (w0 w : World) : Prop :=
  nck t0 (fun t6 _ =>
  fd 7 t6 (fun t7 _ =>
  fd 0 t7 (fun t8 _ =>
  ld1 t8 (fun t9 _ =>
  nck t0 (fun t11 _ =>
  fd 7 t11 (fun t12 _ =>
  fd 1 t12 (fun t13 _ =>
  ld1 t13 (fun t14 _ =>
  nck t0 (fun t16 _ =>
  fd 7 t16 (fun t17 _ =>
  fd 2 t17 (fun t18 _ =>
  ld1 t18 (fun t19 _ =>
  apq 5 [(.int .u8 0)] 1 (.slice none 0 0) t19 (fun t20 w =>
  Below w0.heap.size w0 w ∧
  s10_p1 K t9 t14 t20 w) w) w0) w0) w0) w0) w0) w0) w0) w0) w0) w0) w0) w0
def s10_p2 (K : Value → World → Prop) (t0 : Value) (w : World) : Prop := s10_p2_d K t0 (drw w) (drw w)
def s10_p2_den (K : Value → World → Prop) : (Nat → Value) → World → Prop := denL Tryf.prog [(cd (Tryf.f10.body.getD .skip) [1, 0])] (s10_p1_den K) (fun i => (fun _ _ => False)) (s10_R K)
theorem s10_p2_ok (K : Value → World → Prop) (s : Nat → Value) (w : World) (h : s10_p2 K (s 0) w) : Tr (s10_p2_den K s w) :=
  tr_draw (P := Tryf.prog) (ops := (ro (cd (Tryf.f10.body.getD .skip) [1, 0]))) (ms := [0, 1, 3, 7, 15, 0, 32, 96, 224, 480, 0, 1024, 3072, 7168, 15360, 31744, 64543, 131071, 262143]) (cs := [0, 1, 2, 3, 4, 5, 6, 7, 8, 9, 10, 11, 12, 13, 14, 16, 17]) (N := (fun s w => s10_p1 K (s 2) (s 3) (s 4) w)) (N' := (s10_p1_den K)) (s := s) (w := w) (p := s10_p2 K (s 0) w) (q := s10_p2_den K s w) (by kernel_rfl) (by kernel_rfl) (fun s w h => s10_p1_ok K s w @h) (by kernel_rfl) (by kernel_rfl) @h
def s10_p3 (K : Value → World → Prop) (t0 : Value) (w : World) : Prop :=
  s10_p2 K t0 w
def s10_p3_den (K : Value → World → Prop) : (Nat → Value) → World → Prop := denL Tryf.prog [(cd (Tryf.f10.body.getD .skip) [0])] (s10_p2_den K) (fun i => (fun _ _ => False)) (s10_R K)
theorem s10_p3_ok (K : Value → World → Prop) (s : Nat → Value) (w : World) (h : s10_p3 K (s 0) w) : Tr (s10_p3_den K s w) :=
  tr_simple (P := Tryf.prog) (codes := [(cd (Tryf.f10.body.getD .skip) [0])]) (N := (fun s w => s10_p2 K (s 0) w)) (N' := (s10_p2_den K)) (X := (fun i => (fun _ _ => False))) (X' := (fun i => (fun _ _ => False))) (R := s10_R K) (s := s) (w := w) (p := s10_p3 K (s 0) w) (q := s10_p3_den K s w) (fun s w h => s10_p2_ok K s w @h) (fun i => tr_id) (by kernel_rfl) (by kernel_rfl) @h
/-- the call, from the text -/
theorem c10 (t0 : Value) {K : Value → World → Prop} {w : World} (h : s10_p3 K t0 w) : cl Tryf.prog 10 #[t0] K w :=
  calls_of_tr (c := (Tryf.f10.body.getD .skip)) (fn := Tryf.f10) (q := s10_p3_den K (st0 #[t0]) w) Tryf.func10 (by kernel_rfl) (by kernel_rfl) (Nat.le_of_ble_eq_true (by kernel_rfl)) (by kernel_rfl) (by kernel_rfl) (s10_p3_ok K (st0 #[t0]) w @h)

/-! ### function 11 : (*e2e.disk.Disk).Read -/
def s11_R (K : Value → World → Prop) (s : Nat → Value) (w : World) : Prop := retv Tryf.prog s Tryf.f11.results.toList (fun vs => K (pack vs) w) w
def s11_p1 (K : Value → World → Prop) (t0 t1 t2 : Value) (w : World) : Prop :=
  cl Tryf.prog 19 #[t0] (fun t9 w =>
  cl Tryf.prog 18 #[t0, t9, t1, t2] (fun t12 w =>
  K t12 w) w) w
def s11_p1_den (K : Value → World → Prop) : (Nat → Value) → World → Prop := denL Tryf.prog [(cd (Tryf.f11.body.getD .skip) [0]), (cd (Tryf.f11.body.getD .skip) [1, 0]), (cd (Tryf.f11.body.getD .skip) [1, 1])] (fun _ _ => False) (fun i => (fun _ _ => False)) (s11_R K)
theorem s11_p1_ok (K : Value → World → Prop) (s : Nat → Value) (w : World) (h : s11_p1 K (s 0) (s 1) (s 2) w) : Tr (s11_p1_den K s w) :=
  tr_simple (P := Tryf.prog) (codes := [(cd (Tryf.f11.body.getD .skip) [0]), (cd (Tryf.f11.body.getD .skip) [1, 0]), (cd (Tryf.f11.body.getD .skip) [1, 1])]) (N := (fun _ _ => False)) (N' := (fun _ _ => False)) (X := (fun i => (fun _ _ => False))) (X' := (fun i => (fun _ _ => False))) (R := s11_R K) (s := s) (w := w) (p := s11_p1 K (s 0) (s 1) (s 2) w) (q := s11_p1_den K s w) tr_id (fun i => tr_id) (by kernel_rfl) (by kernel_rfl) @h
/-- the call, from the text -/
theorem c11 (t0 t1 t2 : Value) {K : Value → World → Prop} {w : World} (h : s11_p1 K t0 t1 t2 w) : cl Tryf.prog 11 #[t0, t1, t2] K w :=
  calls_of_tr (c := (Tryf.f11.body.getD .skip)) (fn := Tryf.f11) (q := s11_p1_den K (st0 #[t0, t1, t2]) w) Tryf.func11 (by kernel_rfl) (by kernel_rfl) (Nat.le_of_ble_eq_true (by kernel_rfl)) (by kernel_rfl) (by kernel_rfl) (s11_p1_ok K (st0 #[t0, t1, t2]) w @h)

/-! ### function 12 : bytes.Equal -/
def s12_R (K : Value → World → Prop) (s : Nat → Value) (w : World) : Prop := retv Tryf.prog s Tryf.f12.results.toList (fun vs => K (pack vs) w) w
def s12_p1 (K : Value → World → Prop) (t0 t1 : Value) (w : World) : Prop :=
  rs Tryf.prog (convert 27 9 t0) (fun t6 w =>
  rs Tryf.prog (convert 27 9 t1) (fun t8 w =>
  boS .eql t6 t8 (fun t9 w =>
  K t9 w) w) w) w
def s12_p1_den (K : Value → World → Prop) : (Nat → Value) → World → Prop := denL Tryf.prog [(cd (Tryf.f12.body.getD .skip) [0]), (cd (Tryf.f12.body.getD .skip) [1, 0]), (cd (Tryf.f12.body.getD .skip) [1, 1])] (fun _ _ => False) (fun i => (fun _ _ => False)) (s12_R K)
theorem s12_p1_ok (K : Value → World → Prop) (s : Nat → Value) (w : World) (h : s12_p1 K (s 0) (s 1) w) : Tr (s12_p1_den K s w) :=
  tr_simple (P := Tryf.prog) (codes := [(cd (Tryf.f12.body.getD .skip) [0]), (cd (Tryf.f12.body.getD .skip) [1, 0]), (cd (Tryf.f12.body.getD .skip) [1, 1])]) (N := (fun _ _ => False)) (N' := (fun _ _ => False)) (X := (fun i => (fun _ _ => False))) (X' := (fun i => (fun _ _ => False))) (R := s12_R K) (s := s) (w := w) (p := s12_p1 K (s 0) (s 1) w) (q := s12_p1_den K s w) tr_id (fun i => tr_id) (by kernel_rfl) (by kernel_rfl) @h
/-- the call, from the text -/
theorem c12 (t0 t1 : Value) {K : Value → World → Prop} {w : World} (h : s12_p1 K t0 t1 w) : cl Tryf.prog 12 #[t0, t1] K w :=
  calls_of_tr (c := (Tryf.f12.body.getD .skip)) (fn := Tryf.f12) (q := s12_p1_den K (st0 #[t0, t1]) w) Tryf.func12 (by kernel_rfl) (by kernel_rfl) (Nat.le_of_ble_eq_true (by kernel_rfl)) (by kernel_rfl) (by kernel_rfl) (s12_p1_ok K (st0 #[t0, t1]) w @h)

/-! ### function 13 : e2e.disk.Check -/
def s13_R (K : Value → World → Prop) (s : Nat → Value) (w : World) : Prop := retv Tryf.prog s Tryf.f13.results.toList (fun vs => K (pack vs) w) w
def s13_p1 (K : Value → World → Prop) (t3 : Value) (w : World) : Prop :=
  bdq [(.int .u8 0), (.string ⟨#[]⟩), (.int .u64 0), (.int .i64 0), (.string ⟨#[]⟩)] [(some (0, 1), (.int .u8 1)), (some (1, 1), (.string ⟨#[99, 104, 101, 99, 107]⟩)), (some (4, 1), t3)] (fun t61 w =>
  nw 62 (t61).cells (fun t62 w =>
  K (.iface 58 t62) w) w) w
def s13_p1_den (K : Value → World → Prop) : (Nat → Value) → World → Prop := denL Tryf.prog [(cd (Tryf.f13.body.getD .skip) [1, 1, 1, 0]), (cd (Tryf.f13.body.getD .skip) [1, 1, 1, 1])] (fun _ _ => False) (fun i => (fun _ _ => False)) (s13_R K)
theorem s13_p1_ok (K : Value → World → Prop) (s : Nat → Value) (w : World) (h : s13_p1 K (s 3) w) : Tr (s13_p1_den K s w) :=
  tr_simple (P := Tryf.prog) (codes := [(cd (Tryf.f13.body.getD .skip) [1, 1, 1, 0]), (cd (Tryf.f13.body.getD .skip) [1, 1, 1, 1])]) (N := (fun _ _ => False)) (N' := (fun _ _ => False)) (X := (fun i => (fun _ _ => False))) (X' := (fun i => (fun _ _ => False))) (R := s13_R K) (s := s) (w := w) (p := s13_p1 K (s 3) w) (q := s13_p1_den K s w) tr_id (fun i => tr_id) (by kernel_rfl) (by kernel_rfl) @h
def s13_p2 (K : Value → World → Prop) (t0 : Value) (w : World) : Prop :=
  nw 29 (t0).cells (fun t1 w =>
  fd 0 t1 (fun t5 w =>
  ld1 t5 (fun t6 w =>
  boI .lss t6 (.int .u32 16) (fun t7 w =>
  gd t7 false (fd 0 t1) (fun t9 w =>
  gd t7 false (ld1 t9) (fun t10 w =>
  gd t7 false (boI .gtr t10 (.int .u32 65536)) (fun t11 w =>
  pk t7 (.bool true) t11 (fun t12 w =>
  ifb t12
  (fd 0 t1 (fun t13 w =>
  ld1 t13 (fun t14 w =>
  bsq 20 [.nilIface] 3 [(some (0, 1), (.iface 26 t14)), (some (1, 1), (.iface 3 (.int .i64 16))), (some (2, 1), (.iface 3 (.int .i64 65536)))] (fun t18 w =>
  cx Tryf.prog 20 #[(.string ⟨#[115, 101, 99, 116, 111, 114, 32, 115, 105, 122, 101, 32, 37, 100, 32, 105, 115, 32, 110, 111, 116, 32, 119, 105, 116, 104, 105, 110, 32, 37, 100, 46, 46, 37, 100]⟩), t18] (fun t19 w =>
  s13_p1 K t19 w) w) w) w) w)
  (fd 0 t1 (fun t21 w =>
  ld1 t21 (fun t22 w =>
  cl Tryf.prog 21 #[t22] (fun t23 w =>
  boI .neq t23 (.int .i64 1) (fun t24 w =>
  ifb t24
  (fd 0 t1 (fun t25 w =>
  ld1 t25 (fun t26 w =>
  bsq 20 [.nilIface] 1 [(some (0, 1), (.iface 26 t26))] (fun t28 w =>
  cx Tryf.prog 20 #[(.string ⟨#[115, 101, 99, 116, 111, 114, 32, 115, 105, 122, 101, 32, 37, 100, 32, 105, 115, 32, 110, 111, 116, 32, 97, 32, 112, 111, 119, 101, 114, 32, 111, 102, 32, 116, 119, 111]⟩), t28] (fun t29 w =>
  s13_p1 K t29 w) w) w) w) w)
  (fd 1 t1 (fun t31 w =>
  ld1 t31 (fun t32 w =>
  boI .eql t32 (.int .u64 0) (fun t33 w =>
  gd t33 false (fd 1 t1) (fun t35 w =>
  gd t33 false (ld1 t35) (fun t36 w =>
  gd t33 false (boI .gtr t36 (.int .u64 1099511627776)) (fun t37 w =>
  pk t33 (.bool true) t37 (fun t38 w =>
  ifb t38
  (fd 1 t1 (fun t39 w =>
  ld1 t39 (fun t40 w =>
  bsq 20 [.nilIface] 2 [(some (0, 1), (.iface 25 t40)), (some (1, 1), (.iface 25 (.int .u64 1099511627776)))] (fun t43 w =>
  cx Tryf.prog 20 #[(.string ⟨#[37, 100, 32, 115, 101, 99, 116, 111, 114, 115, 32, 105, 115, 32, 110, 111, 116, 32, 119, 105, 116, 104, 105, 110, 32, 49, 46, 46, 37, 100]⟩), t43] (fun t44 w =>
  s13_p1 K t44 w) w) w) w) w)
  (fd 2 t1 (fun t46 w =>
  ld1 t46 (fun t47 w =>
  boI .eql t47 (.int .u32 0) (fun t48 w =>
  gd t48 false (fd 2 t1) (fun t50 w =>
  gd t48 false (ld1 t50) (fun t51 w =>
  gd t48 false (boI .gtr t51 (.int .u32 65536)) (fun t52 w =>
  pk t48 (.bool true) t52 (fun t53 w =>
  ifb t53
  (fd 2 t1 (fun t54 w =>
  ld1 t54 (fun t55 w =>
  bsq 20 [.nilIface] 2 [(some (0, 1), (.iface 26 t55)), (some (1, 1), (.iface 3 (.int .i64 65536)))] (fun t58 w =>
  cx Tryf.prog 20 #[(.string ⟨#[37, 100, 32, 99, 97, 99, 104, 101, 32, 115, 108, 111, 116, 115, 32, 105, 115, 32, 110, 111, 116, 32, 119, 105, 116, 104, 105, 110, 32, 49, 46, 46, 37, 100]⟩), t58] (fun t59 w =>
  s13_p1 K t59 w) w) w) w) w)
  (K .nilIface w)) w) w) w) w) w) w) w)) w) w) w) w) w) w) w)) w) w) w) w)) w) w) w) w) w) w) w) w
def s13_p2_den (K : Value → World → Prop) : (Nat → Value) → World → Prop := denL Tryf.prog [(cd (Tryf.f13.body.getD .skip) [0]), (cd (Tryf.f13.body.getD .skip) [1, 0]), (cd (Tryf.f13.body.getD .skip) [1, 1, 0])] (s13_p1_den K) (fun i => (fun _ _ => False)) (s13_R K)
theorem s13_p2_ok (K : Value → World → Prop) (s : Nat → Value) (w : World) (h : s13_p2 K (s 0) w) : Tr (s13_p2_den K s w) :=
  tr_simple (P := Tryf.prog) (codes := [(cd (Tryf.f13.body.getD .skip) [0]), (cd (Tryf.f13.body.getD .skip) [1, 0]), (cd (Tryf.f13.body.getD .skip) [1, 1, 0])]) (N := (fun s w => s13_p1 K (s 3) w)) (N' := (s13_p1_den K)) (X := (fun i => (fun _ _ => False))) (X' := (fun i => (fun _ _ => False))) (R := s13_R K) (s := s) (w := w) (p := s13_p2 K (s 0) w) (q := s13_p2_den K s w) (fun s w h => s13_p1_ok K s w @h) (fun i => tr_id) (by kernel_rfl) (by kernel_rfl) @h
/-- the call, from the text -/
theorem c13 (t0 : Value) {K : Value → World → Prop} {w : World} (h : s13_p2 K t0 w) : cl Tryf.prog 13 #[t0] K w :=
  calls_of_tr (c := (Tryf.f13.body.getD .skip)) (fn := Tryf.f13) (q := s13_p2_den K (st0 #[t0]) w) Tryf.func13 (by kernel_rfl) (by kernel_rfl) (Nat.le_of_ble_eq_true (by kernel_rfl)) (by kernel_rfl) (by kernel_rfl) (s13_p2_ok K (st0 #[t0]) w @h)

/-! ### function 14 : e2e.disk.newMedia -/
def s14_R (K : Value → World → Prop) (s : Nat → Value) (w : World) : Prop := retv Tryf.prog s Tryf.f14.results.toList (fun vs => K (pack vs) w) w
def s14_p1 (K : Value → World → Prop) (t3 : Value) (w : World) : Prop :=
  nck t3 (fun t31 w =>
  fd 2 t31 (fun t32 w =>
  ld1 t32 (fun t33 w =>
  boI .shl (.int .u64 1) t33 (fun t34 w =>
  boI .sub t34 (.int .u64 1) (fun t35 w =>
  nck t3 (fun t36 w =>
  fd 3 t36 (fun t37 w =>
  st1 t37 t35 (fun w =>
  K t3 w) w) w) w) w) w) w) w) w
def s14_p1_den (K : Value → World → Prop) : (Nat → Value) → World → Prop := denL Tryf.prog [(cd (Tryf.f14.body.getD .skip) [1, 1, 1, 0]), (cd (Tryf.f14.body.getD .skip) [1, 1, 1, 1, 0]), (cd (Tryf.f14.body.getD .skip) [1, 1, 1, 1, 1])] (fun _ _ => False) (fun i => (fun _ _ => False)) (s14_R K)
theorem s14_p1_ok (K : Value → World → Prop) (s : Nat → Value) (w : World) (h : s14_p1 K (s 3) w) : Tr (s14_p1_den K s w) :=
  tr_simple (P := Tryf.prog) (codes := [(cd (Tryf.f14.body.getD .skip) [1, 1, 1, 0]), (cd (Tryf.f14.body.getD .skip) [1, 1, 1, 1, 0]), (cd (Tryf.f14.body.getD .skip) [1, 1, 1, 1, 1])]) (N := (fun _ _ => False)) (N' := (fun _ _ => False)) (X := (fun i => (fun _ _ => False))) (X' := (fun i => (fun _ _ => False))) (R := s14_R K) (s := s) (w := w) (p := s14_p1 K (s 3) w) (q := s14_p1_den K s w) tr_id (fun i => tr_id) (by kernel_rfl) (by kernel_rfl) @h
def s14_p2 (K : Value → World → Prop) (B1 : List Value → World → Prop) (t3 : Value) (w : World) : Prop :=
  nck t3 (fun t11 w =>
  fd 1 t11 (fun t12 w =>
  ld1 t12 (fun t13 w =>
  boI .lss t13 (.int .i64 4096) (fun t14 w =>
  ifb t14
  (nck t3 (fun t16 w =>
  fd 1 t16 (fun t17 w =>
  ld1 t17 (fun t18 w =>
  boI .mul t18 (.int .i64 2) (fun t19 w =>
  nck t3 (fun t20 w =>
  fd 1 t20 (fun t21 w =>
  st1 t21 t19 (fun w =>
  nck t3 (fun t23 w =>
  fd 2 t23 (fun t24 w =>
  ld1 t24 (fun t25 w =>
  boI .add t25 (.int .u64 1) (fun t26 w =>
  nck t3 (fun t27 w =>
  fd 2 t27 (fun t28 w =>
  st1 t28 t26 (fun w =>
  B1 [t3] w) w) w) w) w) w) w) w) w) w) w) w) w) w) w)
  (s14_p1 K t3 w)) w) w) w) w
def s14_p2_den (K : Value → World → Prop) (M1 : (Nat → Value) → World → Prop) : (Nat → Value) → World → Prop := denL Tryf.prog [(cd (Tryf.f14.body.getD .skip) [1, 1, 0, 0, 0, 0, 0]), (cd (Tryf.f14.body.getD .skip) [1, 1, 0, 0, 0, 0, 1]), (cd (Tryf.f14.body.getD .skip) [1, 1, 0, 0, 0, 1])] M1 (fun i => (bif Nat.beq i 0 then (s14_p1_den K) else (fun _ _ => False))) (s14_R K)
theorem s14_p2_ok (K : Value → World → Prop) (B1 : List Value → World → Prop) (s : Nat → Value) (w : World) (h : s14_p2 K B1 (s 3) w) : Tr (s14_p2_den K (fun s w => B1 [s 3] w) s w) :=
  tr_simple (P := Tryf.prog) (codes := [(cd (Tryf.f14.body.getD .skip) [1, 1, 0, 0, 0, 0, 0]), (cd (Tryf.f14.body.getD .skip) [1, 1, 0, 0, 0, 0, 1]), (cd (Tryf.f14.body.getD .skip) [1, 1, 0, 0, 0, 1])]) (N := (fun s w => B1 [s 3] w)) (N' := (fun s w => B1 [s 3] w)) (X := (fun i => (bif Nat.beq i 0 then (fun s w => s14_p1 K (s 3) w) else (fun _ _ => False)))) (X' := (fun i => (bif Nat.beq i 0 then (s14_p1_den K) else (fun _ _ => False)))) (R := s14_R K) (s := s) (w := w) (p := s14_p2 K B1 (s 3) w) (q := s14_p2_den K (fun s w => B1 [s 3] w) s w) tr_id (fun i => (tr_bif (fun s w h => s14_p1_ok K s w @h) tr_id)) (by kernel_rfl) (by kernel_rfl) @h
def s14_p3_F (K : Value → World → Prop) (B1 : List Value → World → Prop) (l : List Value) (w : World) : Prop :=
  match l with
  | [t3] => s14_p2 K B1 t3 w
  | _ => False
theorem s14_p3_Fe {K : Value → World → Prop} {B1 : List Value → World → Prop} {t3 : Value} {w : World} : s14_p3_F K B1 [t3] w = s14_p2 K B1 t3 w := by kernel_rfl
def s14_p3 (K : Value → World → Prop) (t3 : Value) (w : World) : Prop :=
  LoopL (s14_p3_F K) [t3] w
def s14_p3_den (K : Value → World → Prop) : (Nat → Value) → World → Prop := fun s w => LoopP (fun M1 s w => s14_p2_den K M1 s w) s w
theorem s14_p3_ok (K : Value → World → Prop) (s : Nat → Value) (w : World) (h : s14_p3 K (s 3) w) : Tr (s14_p3_den K s w) :=
  tr_loop (G := fun N' s w => s14_p2_den K N' s w) (F := s14_p3_F K) (sel := fun s => [s 3]) (s := s) (w := w) (p := s14_p3 K (s 3) w) (q := s14_p3_den K s w) (fun B s w h => s14_p2_ok K B s w @h) (by kernel_rfl) (by kernel_rfl) @h
def s14_p4 (K : Value → World → Prop) (t0 : Value) (w : World) : Prop :=
  rs Tryf.prog (Instr.makeMap 69 none) (fun t6 w =>
  nw 72 #[(.int .u8 0)] (fun t7 w =>
  bdq [(.int .i64 0), (.int .i64 0), (.int .u64 0), (.int .u64 0), (.map none), (.pointer none)] [(some (0, 1), t0), (some (1, 1), t0), (some (4, 1), t6), (some (5, 1), t7)] (fun t8 w =>
  nw 75 (t8).cells (fun t9 w =>
  s14_p3 K t9 w) w) w) w) w
def s14_p4_den (K : Value → World → Prop) : (Nat → Value) → World → Prop := denL Tryf.prog [(cd (Tryf.f14.body.getD .skip) [0]), (cd (Tryf.f14.body.getD .skip) [1, 0])] (s14_p3_den K) (fun i => (fun _ _ => False)) (s14_R K)
theorem s14_p4_ok (K : Value → World → Prop) (s : Nat → Value) (w : World) (h : s14_p4 K (s 0) w) : Tr (s14_p4_den K s w) :=
  tr_simple (P := Tryf.prog) (codes := [(cd (Tryf.f14.body.getD .skip) [0]), (cd (Tryf.f14.body.getD .skip) [1, 0])]) (N := (fun s w => s14_p3 K (s 3) w)) (N' := (s14_p3_den K)) (X := (fun i => (fun _ _ => False))) (X' := (fun i => (fun _ _ => False))) (R := s14_R K) (s := s) (w := w) (p := s14_p4 K (s 0) w) (q := s14_p4_den K s w) (fun s w h => s14_p3_ok K s w @h) (fun i => tr_id) (by kernel_rfl) (by kernel_rfl) @h
/-- the call, from the text -/
theorem c14 (t0 : Value) {K : Value → World → Prop} {w : World} (h : s14_p4 K t0 w) : cl Tryf.prog 14 #[t0] K w :=
  calls_of_tr (c := (Tryf.f14.body.getD .skip)) (fn := Tryf.f14) (q := s14_p4_den K (st0 #[t0]) w) Tryf.func14 (by kernel_rfl) (by kernel_rfl) (Nat.le_of_ble_eq_true (by kernel_rfl)) (by kernel_rfl) (by kernel_rfl) (s14_p4_ok K (st0 #[t0]) w @h)

/-! ### function 15 : e2e.disk.newCache -/
def s15_R (K : Value → World → Prop) (s : Nat → Value) (w : World) : Prop := retv Tryf.prog s Tryf.f15.results.toList (fun vs => K (pack vs) w) w
def s15_p1 (K : Value → World → Prop) (t0 t1 : Value) (w : World) : Prop :=
  rs Tryf.prog (Instr.makeMap 76 none) (fun t7 w =>
  bdq [(.int .i64 0), (.int .i64 0), (.slice none 0 0), (.int .u64 0), (.int .u64 0), (.map none), (.slice none 0 0)] [(some (0, 1), t0), (some (1, 1), t1), (some (5, 1), t7)] (fun t8 w =>
  nw 80 (t8).cells (fun t9 w =>
  K t9 w) w) w) w
def s15_p1_den (K : Value → World → Prop) : (Nat → Value) → World → Prop := denL Tryf.prog [(cd (Tryf.f15.body.getD .skip) [0]), (cd (Tryf.f15.body.getD .skip) [1, 0]), (cd (Tryf.f15.body.getD .skip) [1, 1])] (fun _ _ => False) (fun i => (fun _ _ => False)) (s15_R K)
theorem s15_p1_ok (K : Value → World → Prop) (s : Nat → Value) (w : World) (h : s15_p1 K (s 0) (s 1) w) : Tr (s15_p1_den K s w) :=
  tr_simple (P := Tryf.prog) (codes := [(cd (Tryf.f15.body.getD .skip) [0]), (cd (Tryf.f15.body.getD .skip) [1, 0]), (cd (Tryf.f15.body.getD .skip) [1, 1])]) (N := (fun _ _ => False)) (N' := (fun _ _ => False)) (X := (fun i => (fun _ _ => False))) (X' := (fun i => (fun _ _ => False))) (R := s15_R K) (s := s) (w := w) (p := s15_p1 K (s 0) (s 1) w) (q := s15_p1_den K s w) tr_id (fun i => tr_id) (by kernel_rfl) (by kernel_rfl) @h
/-- the call, from the text -/
theorem c15 (t0 t1 : Value) {K : Value → World → Prop} {w : World} (h : s15_p1 K t0 t1 w) : cl Tryf.prog 15 #[t0, t1] K w :=
  calls_of_tr (c := (Tryf.f15.body.getD .skip)) (fn := Tryf.f15) (q := s15_p1_den K (st0 #[t0, t1]) w) Tryf.func15 (by kernel_rfl) (by kernel_rfl) (Nat.le_of_ble_eq_true (by kernel_rfl)) (by kernel_rfl) (by kernel_rfl) (s15_p1_ok K (st0 #[t0, t1]) w @h)

/-! ### function 17 : (*e2e.disk.cache).len -/
def s17_R (K : Value → World → Prop) (s : Nat → Value) (w : World) : Prop := retv Tryf.prog s Tryf.f17.results.toList (fun vs => K (pack vs) w) w
def s17_p1 (K : Value → World → Prop) (t2 : Value) (w : World) : Prop :=
  K t2 w
def s17_p1_den (K : Value → World → Prop) : (Nat → Value) → World → Prop := denL Tryf.prog [(cd (Tryf.f17.body.getD .skip) [1, 1])] (fun _ _ => False) (fun i => (fun _ _ => False)) (s17_R K)
theorem s17_p1_ok (K : Value → World → Prop) (s : Nat → Value) (w : World) (h : s17_p1 K (s 2) w) : Tr (s17_p1_den K s w) :=
  tr_simple (P := Tryf.prog) (codes := [(cd (Tryf.f17.body.getD .skip) [1, 1])]) (N := (fun _ _ => False)) (N' := (fun _ _ => False)) (X := (fun i => (fun _ _ => False))) (X' := (fun i => (fun _ _ => False))) (R := s17_R K) (s := s) (w := w) (p := s17_p1 K (s 2) w) (q := s17_p1_den K s w) tr_id (fun i => tr_id) (by kernel_rfl) (by kernel_rfl) @h
def s17_p2_d (K : Value → World → Prop) (t0 : Value) (w0 w : World) : Prop :=
  nck t0 (fun t4 _ =>
  fd 4 t4 (fun t5 _ =>
  ld1 t5 (fun t6 _ =>
  nck t0 (fun t8 _ =>
  fd 3 t8 (fun t9 _ =>
  ld1 t9 (fun t10 _ =>
  boI .sub t6 t10 (fun t11 _ =>
  cvi .i64 t11 (fun t12 _ =>
  s17_p1 K t12 w) w0) w0) w0) w0) w0) w0) w0) w0
def s17_p2 (K : Value → World → Prop) (t0 : Value) (w : World) : Prop := s17_p2_d K t0 (drw w) (drw w)
def s17_p2_den (K : Value → World → Prop) : (Nat → Value) → World → Prop := denL Tryf.prog [(cd (Tryf.f17.body.getD .skip) [1, 0])] (s17_p1_den K) (fun i => (fun _ _ => False)) (s17_R K)
theorem s17_p2_ok (K : Value → World → Prop) (s : Nat → Value) (w : World) (h : s17_p2 K (s 0) w) : Tr (s17_p2_den K s w) :=
  tr_draw (P := Tryf.prog) (ops := (ro (cd (Tryf.f17.body.getD .skip) [1, 0]))) (ms := [0, 1, 3, 7, 0, 16, 48, 112, 255, 511, 1023]) (cs := [0, 1, 2, 3, 4, 5, 6, 7, 8, 9, 10]) (N := (fun s w => s17_p1 K (s 2) w)) (N' := (s17_p1_den K)) (s := s) (w := w) (p := s17_p2 K (s 0) w) (q := s17_p2_den K s w) (by kernel_rfl) (by kernel_rfl) (fun s w h => s17_p1_ok K s w @h) (by kernel_rfl) (by kernel_rfl) @h
def s17_p3 (K : Value → World → Prop) (t0 : Value) (w : World) : Prop :=
  s17_p2 K t0 w
def s17_p3_den (K : Value → World → Prop) : (Nat → Value) → World → Prop := denL Tryf.prog [(cd (Tryf.f17.body.getD .skip) [0])] (s17_p2_den K) (fun i => (fun _ _ => False)) (s17_R K)
theorem s17_p3_ok (K : Value → World → Prop) (s : Nat → Value) (w : World) (h : s17_p3 K (s 0) w) : Tr (s17_p3_den K s w) :=
  tr_simple (P := Tryf.prog) (codes := [(cd (Tryf.f17.body.getD .skip) [0])]) (N := (fun s w => s17_p2 K (s 0) w)) (N' := (s17_p2_den K)) (X := (fun i => (fun _ _ => False))) (X' := (fun i => (fun _ _ => False))) (R := s17_R K) (s := s) (w := w) (p := s17_p3 K (s 0) w) (q := s17_p3_den K s w) (fun s w h => s17_p2_ok K s w @h) (fun i => tr_id) (by kernel_rfl) (by kernel_rfl) @h
/-- the call, from the text -/
theorem c17 (t0 : Value) {K : Value → World → Prop} {w : World} (h : s17_p3 K t0 w) : cl Tryf.prog 17 #[t0] K w :=
  calls_of_tr (c := (Tryf.f17.body.getD .skip)) (fn := Tryf.f17) (q := s17_p3_den K (st0 #[t0]) w) Tryf.func17 (by kernel_rfl) (by kernel_rfl) (Nat.le_of_ble_eq_true (by kernel_rfl)) (by kernel_rfl) (by kernel_rfl) (s17_p3_ok K (st0 #[t0]) w @h)

/-! ### function 18 : (*e2e.disk.Disk).read -/
def s18_R (K : Value → World → Prop) (s : Nat → Value) (w : World) : Prop := retv Tryf.prog s Tryf.f18.results.toList (fun vs => K (pack vs) w) w
def s18_p1 (K : Value → World → Prop) (t0 : Value) (w : World) : Prop :=
  nck t0 (fun t63 w =>
  fd 10 t63 (fun t64 w =>
  fd 0 t64 (fun t65 w =>
  cl Tryf.prog 29 #[t65, (.int .u64 1)] (fun t66 w =>
  K .nilIface w) w) w) w) w
def s18_p1_den (K : Value → World → Prop) : (Nat → Value) → World → Prop := denL Tryf.prog [(cd (Tryf.f18.body.getD .skip) [1, 1, 1, 1, 0]), (cd (Tryf.f18.body.getD .skip) [1, 1, 1, 1, 1, 0]), (cd (Tryf.f18.body.getD .skip) [1, 1, 1, 1, 1, 1])] (fun _ _ => False) (fun i => (fun _ _ => False)) (s18_R K)
theorem s18_p1_ok (K : Value → World → Prop) (s : Nat → Value) (w : World) (h : s18_p1 K (s 0) w) : Tr (s18_p1_den K s w) :=
  tr_simple (P := Tryf.prog) (codes := [(cd (Tryf.f18.body.getD .skip) [1, 1, 1, 1, 0]), (cd (Tryf.f18.body.getD .skip) [1, 1, 1, 1, 1, 0]), (cd (Tryf.f18.body.getD .skip) [1, 1, 1, 1, 1, 1])]) (N := (fun _ _ => False)) (N' := (fun _ _ => False)) (X := (fun i => (fun _ _ => False))) (X' := (fun i => (fun _ _ => False))) (R := s18_R K) (s := s) (w := w) (p := s18_p1 K (s 0) w) (q := s18_p1_den K s w) tr_id (fun i => tr_id) (by kernel_rfl) (by kernel_rfl) @h
def s18_p2 (K : Value → World → Prop) (t0 t3 t10 : Value) (w : World) : Prop :=
  cpq 1 t3 t10 (fun t46 w =>
  nck t0 (fun t48 w =>
  fd 10 t48 (fun t49 w =>
  fd 1 t49 (fun t50 w =>
  cl Tryf.prog 29 #[t50, (.int .u64 1)] (fun t51 w =>
  s18_p1 K t0 w) w) w) w) w) w
def s18_p2_den (K : Value → World → Prop) : (Nat → Value) → World → Prop := denL Tryf.prog [(cd (Tryf.f18.body.getD .skip) [1, 1, 1, 0, 1, 1, 0, 0]), (cd (Tryf.f18.body.getD .skip) [1, 1, 1, 0, 1, 1, 0, 1])] (s18_p1_den K) (fun i => (fun _ _ => False)) (s18_R K)
theorem s18_p2_ok (K : Value → World → Prop) (s : Nat → Value) (w : World) (h : s18_p2 K (s 0) (s 3) (s 10) w) : Tr (s18_p2_den K s w) :=
  tr_simple (P := Tryf.prog) (codes := [(cd (Tryf.f18.body.getD .skip) [1, 1, 1, 0, 1, 1, 0, 0]), (cd (Tryf.f18.body.getD .skip) [1, 1, 1, 0, 1, 1, 0, 1])]) (N := (fun s w => s18_p1 K (s 0) w)) (N' := (s18_p1_den K)) (X := (fun i => (fun _ _ => False))) (X' := (fun i => (fun _ _ => False))) (R := s18_R K) (s := s) (w := w) (p := s18_p2 K (s 0) (s 3) (s 10) w) (q := s18_p2_den K s w) (fun s w h => s18_p1_ok K s w @h) (fun i => tr_id) (by kernel_rfl) (by kernel_rfl) @h
def s18_p3_d (K : Value → World → Prop) (t0 t2 t3 t5 : Value) (w0 w : World) : Prop :=
  nck t0 (fun t53 _ =>
  fd 4 t53 (fun t54 _ =>
  ld1 t54 (fun t55 _ =>
  fd 0 t5 (fun t56 _ =>
  ld1 t56 (fun t57 _ =>
  boI .add t57 t2 (fun t59 _ =>
  cl Tryf.prog 30 #[t55, t59, t3] (fun t61 w =>
  s18_p1 K t0 w) w) w0) w0) w0) w0) w0) w0
def s18_p3 (K : Value → World → Prop) (t0 t2 t3 t5 : Value) (w : World) : Prop := s18_p3_d K t0 t2 t3 t5 (drw w) (drw w)
def s18_p3_den (K : Value → World → Prop) : (Nat → Value) → World → Prop := denL Tryf.prog [(cd (Tryf.f18.body.getD .skip) [1, 1, 1, 0, 1, 1, 1])] (s18_p1_den K) (fun i => (fun _ _ => False)) (s18_R K)
theorem s18_p3_ok (K : Value → World → Prop) (s : Nat → Value) (w : World) (h : s18_p3 K (s 0) (s 2) (s 3) (s 5) w) : Tr (s18_p3_den K s w) :=
  tr_draw (P := Tryf.prog) (ops := (ro (cd (Tryf.f18.body.getD .skip) [1, 1, 1, 0, 1, 1, 1]))) (ms := [0, 1, 3, 7, 0, 16, 0, 112, 0, 511]) (cs := [0, 1, 2, 3, 4, 5, 6, 7, 8]) (N := (fun s w => s18_p1 K (s 0) w)) (N' := (s18_p1_den K)) (s := s) (w := w) (p := s18_p3 K (s 0) (s 2) (s 3) (s 5) w) (q := s18_p3_den K s w) (by kernel_rfl) (by kernel_rfl) (fun s w h => s18_p1_ok K s w @h) (by kernel_rfl) (by kernel_rfl) @h
def s18_p4 (K : Value → World → Prop) (t0 t2 t3 t5 t10 t43 : Value) (w : World) : Prop :=
  ifb t43
  (s18_p2 K t0 t3 t10 w)
  (s18_p3 K t0 t2 t3 t5 w)
def s18_p4_den (K : Value → World → Prop) : (Nat → Value) → World → Prop := fun s w => ifb (ev s (.tmp 43)) ((s18_p2_den K) s w) ((s18_p3_den K) s w)
theorem s18_p4_ok (K : Value → World → Prop) (s : Nat → Value) (w : World) (h : s18_p4 K (s 0) (s 2) (s 3) (s 5) (s 10) (s 43) w) : Tr (s18_p4_den K s w) :=
  tr_cond (v := ev s (.tmp 43)) (a := (fun s w => s18_p2 K (s 0) (s 3) (s 10) w) s w) (a' := (s18_p2_den K) s w) (b := (fun s w => s18_p3 K (s 0) (s 2) (s 3) (s 5) w) s w) (b' := (s18_p3_den K) s w) (p := s18_p4 K (s 0) (s 2) (s 3) (s 5) (s 10) (s 43) w) (q := s18_p4_den K s w) ((fun s w h => s18_p2_ok K s w @h) s w) ((fun s w h => s18_p3_ok K s w @h) s w) (by kernel_rfl) (by kernel_rfl) @h
def s18_p5 (K : Value → World → Prop) (t0 t2 t3 t5 t10 t11 : Value) (w : World) : Prop :=
  s18_p4 K t0 t2 t3 t5 t10 t11 w
def s18_p5_den (K : Value → World → Prop) : (Nat → Value) → World → Prop := denL Tryf.prog [(cd (Tryf.f18.body.getD .skip) [1, 1, 1, 0, 1, 0])] (s18_p4_den K) (fun i => (fun _ _ => False)) (s18_R K)
theorem s18_p5_ok (K : Value → World → Prop) (s : Nat → Value) (w : World) (h : s18_p5 K (s 0) (s 2) (s 3) (s 5) (s 10) (s 11) w) : Tr (s18_p5_den K s w) :=
  tr_simple (P := Tryf.prog) (codes := [(cd (Tryf.f18.body.getD .skip) [1, 1, 1, 0, 1, 0])]) (N := (fun s w => s18_p4 K (s 0) (s 2) (s 3) (s 5) (s 10) (s 43) w)) (N' := (s18_p4_den K)) (X := (fun i => (fun _ _ => False))) (X' := (fun i => (fun _ _ => False))) (R := s18_R K) (s := s) (w := w) (p := s18_p5 K (s 0) (s 2) (s 3) (s 5) (s 10) (s 11) w) (q := s18_p5_den K s w) (fun s w h => s18_p4_ok K s w @h) (fun i => tr_id) (by kernel_rfl) (by kernel_rfl) @h
def s18_p6_d (K : Value → World → Prop) (t0 t2 t3 t5 : Value) (w0 w : World) : Prop :=
  nck t0 (fun t33 _ =>
  fd 5 t33 (fun t34 _ =>
  ld1 t34 (fun t35 _ =>
  fd 0 t5 (fun t36 _ =>
  ld1 t36 (fun t37 _ =>
  boI .add t37 t2 (fun t39 _ =>
  cl Tryf.prog 28 #[t35, t39] (fun t40 w =>
  (exq t40 0 (fun t41 w =>
  (exq t40 1 (fun t42 w =>
  s18_p5 K t0 t2 t3 t5 t41 t42 w) w) ∧
  (exq t40 1 (fun t42_2 w =>
  s18_p5 K t0 t2 t3 t5 t41 t42_2 w) w)) w) ∧
  (exq t40 1 (fun t42_3 w =>
  exq t40 0 (fun t41_2 w =>
  s18_p5 K t0 t2 t3 t5 t41_2 t42_3 w) w) w)) w) w0) w0) w0) w0) w0) w0
def s18_p6 (K : Value → World → Prop) (t0 t2 t3 t5 : Value) (w : World) : Prop := s18_p6_d K t0 t2 t3 t5 (drw w) (drw w)
def s18_p6_den (K : Value → World → Prop) : (Nat → Value) → World → Prop := denL Tryf.prog [(cd (Tryf.f18.body.getD .skip) [1, 1, 1, 0, 0])] (s18_p5_den K) (fun i => (fun _ _ => False)) (s18_R K)
theorem s18_p6_ok (K : Value → World → Prop) (s : Nat → Value) (w : World) (h : s18_p6 K (s 0) (s 2) (s 3) (s 5) w) : Tr (s18_p6_den K s w) :=
  tr_draw (P := Tryf.prog) (ops := (ro (cd (Tryf.f18.body.getD .skip) [1, 1, 1, 0, 0]))) (ms := [0, 1, 3, 7, 0, 16, 0, 112, 255, 511, 1023, 1023, 2047, 8191]) (cs := [0, 1, 2, 3, 4, 5, 6, 7]) (N := (fun s w => s18_p5 K (s 0) (s 2) (s 3) (s 5) (s 10) (s 11) w)) (N' := (s18_p5_den K)) (s := s) (w := w) (p := s18_p6 K (s 0) (s 2) (s 3) (s 5) w) (q := s18_p6_den K s w) (by kernel_rfl) (by kernel_rfl) (fun s w h => s18_p5_ok K s w @h) (by kernel_rfl) (by kernel_rfl) @h
def s18_p7 (K : Value → World → Prop) (t0 t1 t2 t3 : Value) (w : World) : Prop :=
  nw 65 (t1).cells (fun t5 w =>
  ldn 2 t5 (fun t13 w =>
  lnS t3 (fun t16 w =>
  cl Tryf.prog 26 #[t0, (.string ⟨#[114, 101, 97, 100]⟩), t13, t2, t16] (fun t17 w =>
  boF Tryf.prog true .neq t17 .nilIface (fun t19 w =>
  ifb t19
  (K t17 w)
  (nck t0 (fun t22 w =>
  fd 6 t22 (fun t23 w =>
  ld1 t23 (fun t24 w =>
  un .not t24 (fun t25 w =>
  ifb t25
  (lnS t3 (fun t29 w =>
  cl Tryf.prog 27 #[t0, (.int .u8 4), (.string ⟨#[114, 101, 97, 100]⟩), t2, t29] (fun t30 w =>
  K t30 w) w) w)
  (s18_p6 K t0 t2 t3 t5 w)) w) w) w) w)) w) w) w) w) w
def s18_p7_den (K : Value → World → Prop) : (Nat → Value) → World → Prop := denL Tryf.prog [(cd (Tryf.f18.body.getD .skip) [0]), (cd (Tryf.f18.body.getD .skip) [1, 0, 0]), (cd (Tryf.f18.body.getD .skip) [1, 0, 1, 0]), (cd (Tryf.f18.body.getD .skip) [1, 0, 1, 1]), (cd (Tryf.f18.body.getD .skip) [1, 1, 0, 0]), (cd (Tryf.f18.body.getD .skip) [1, 1, 0, 1])] (s18_p6_den K) (fun i => (fun _ _ => False)) (s18_R K)
theorem s18_p7_ok (K : Value → World → Prop) (s : Nat → Value) (w : World) (h : s18_p7 K (s 0) (s 1) (s 2) (s 3) w) : Tr (s18_p7_den K s w) :=
  tr_simple (P := Tryf.prog) (codes := [(cd (Tryf.f18.body.getD .skip) [0]), (cd (Tryf.f18.body.getD .skip) [1, 0, 0]), (cd (Tryf.f18.body.getD .skip) [1, 0, 1, 0]), (cd (Tryf.f18.body.getD .skip) [1, 0, 1, 1]), (cd (Tryf.f18.body.getD .skip) [1, 1, 0, 0]), (cd (Tryf.f18.body.getD .skip) [1, 1, 0, 1])]) (N := (fun s w => s18_p6 K (s 0) (s 2) (s 3) (s 5) w)) (N' := (s18_p6_den K)) (X := (fun i => (fun _ _ => False))) (X' := (fun i => (fun _ _ => False))) (R := s18_R K) (s := s) (w := w) (p := s18_p7 K (s 0) (s 1) (s 2) (s 3) w) (q := s18_p7_den K s w) (fun s w h => s18_p6_ok K s w @h) (fun i => tr_id) (by kernel_rfl) (by kernel_rfl) @h
/-- the call, from the text -/
theorem c18 (t0 t1 t2 t3 : Value) {K : Value → World → Prop} {w : World} (h : s18_p7 K t0 t1 t2 t3 w) : cl Tryf.prog 18 #[t0, t1, t2, t3] K w :=
  calls_of_tr (c := (Tryf.f18.body.getD .skip)) (fn := Tryf.f18) (q := s18_p7_den K (st0 #[t0, t1, t2, t3]) w) Tryf.func18 (by kernel_rfl) (by kernel_rfl) (Nat.le_of_ble_eq_true (by kernel_rfl)) (by kernel_rfl) (by kernel_rfl) (s18_p7_ok K (st0 #[t0, t1, t2, t3]) w @h)

/-! ### function 19 : (*e2e.disk.Disk).whole -/
def s19_R (K : Value → World → Prop) (s : Nat → Value) (w : World) : Prop := retv Tryf.prog s Tryf.f19.results.toList (fun vs => K (pack vs) w) w
def s19_p1 (K : Value → World → Prop) (t0 : Value) (w : World) : Prop :=
  nw 65 #[(.int .u64 0), (.int .u64 0)] (fun t2 w =>
  nck t0 (fun t4 w =>
  fd 0 t4 (fun t5 w =>
  fd 1 t5 (fun t6 w =>
  ld1 t6 (fun t7 w =>
  bdq [(.int .u64 0), (.int .u64 0)] [(some (0, 1), (.int .u64 0)), (some (1, 1), t7)] (fun t8 w =>
  stn 2 t2 t8 (fun w =>
  ldn 2 t2 (fun r0 _ =>
  K r0 w) w) w) w) w) w) w) w) w
def s19_p1_den (K : Value → World → Prop) : (Nat → Value) → World → Prop := denL Tryf.prog [(cd (Tryf.f19.body.getD .skip) [0]), (cd (Tryf.f19.body.getD .skip) [1, 0]), (cd (Tryf.f19.body.getD .skip) [1, 1])] (fun _ _ => False) (fun i => (fun _ _ => False)) (s19_R K)
theorem s19_p1_ok (K : Value → World → Prop) (s : Nat → Value) (w : World) (h : s19_p1 K (s 0) w) : Tr (s19_p1_den K s w) :=
  tr_simple (P := Tryf.prog) (codes := [(cd (Tryf.f19.body.getD .skip) [0]), (cd (Tryf.f19.body.getD .skip) [1, 0]), (cd (Tryf.f19.body.getD .skip) [1, 1])]) (N := (fun _ _ => False)) (N' := (fun _ _ => False)) (X := (fun i => (fun _ _ => False))) (X' := (fun i => (fun _ _ => False))) (R := s19_R K) (s := s) (w := w) (p := s19_p1 K (s 0) w) (q := s19_p1_den K s w) tr_id (fun i => tr_id) (by kernel_rfl) (by kernel_rfl) @h
/-- the call, from the text -/
theorem c19 (t0 : Value) {K : Value → World → Prop} {w : World} (h : s19_p1 K t0 w) : cl Tryf.prog 19 #[t0] K w :=
  calls_of_tr (c := (Tryf.f19.body.getD .skip)) (fn := Tryf.f19) (q := s19_p1_den K (st0 #[t0]) w) Tryf.func19 (by kernel_rfl) (by kernel_rfl) (Nat.le_of_ble_eq_true (by kernel_rfl)) (by kernel_rfl) (by kernel_rfl) (s19_p1_ok K (st0 #[t0]) w @h)

/-! ### function 21 : math.bits.OnesCount32 -/
def s21_R (K : Value → World → Prop) (s : Nat → Value) (w : World) : Prop := retv Tryf.prog s Tryf.f21.results.toList (fun vs => K (pack vs) w) w
def s21_p1 (K : Value → World → Prop) (t2 : Value) (w : World) : Prop :=
  K t2 w
def s21_p1_den (K : Value → World → Prop) : (Nat → Value) → World → Prop := denL Tryf.prog [(cd (Tryf.f21.body.getD .skip) [1, 1])] (fun _ _ => False) (fun i => (fun _ _ => False)) (s21_R K)
theorem s21_p1_ok (K : Value → World → Prop) (s : Nat → Value) (w : World) (h : s21_p1 K (s 2) w) : Tr (s21_p1_den K s w) :=
  tr_simple (P := Tryf.prog) (codes := [(cd (Tryf.f21.body.getD .skip) [1, 1])]) (N := (fun _ _ => False)) (N' := (fun _ _ => False)) (X := (fun i => (fun _ _ => False))) (X' := (fun i => (fun _ _ => False))) (R := s21_R K) (s := s) (w := w) (p := s21_p1 K (s 2) w) (q := s21_p1_den K s w) tr_id (fun i => tr_id) (by kernel_rfl) (by kernel_rfl) @h
def s21_p2_d (K : Value → World → Prop) (t0 : Value) (w0 w : World) : Prop :=
  boI .shr t0 (.int .u64 24) (fun t4 _ =>
  qv (iv Tryf.prog 9 (.string lit_1) t4) w0 (fun t5 =>
  boI .shr t0 (.int .u64 16) (fun t7 _ =>
  boI .and t7 (.int .u32 255) (fun t8 _ =>
  qv (iv Tryf.prog 9 (.string lit_1) t8) w0 (fun t9 =>
  boI .add t5 t9 (fun t10 _ =>
  boI .shr t0 (.int .u64 8) (fun t12 _ =>
  boI .and t12 (.int .u32 255) (fun t13 _ =>
  qv (iv Tryf.prog 9 (.string lit_1) t13) w0 (fun t14 =>
  boI .add t10 t14 (fun t15 _ =>
  boI .and t0 (.int .u32 255) (fun t17 _ =>
  qv (iv Tryf.prog 9 (.string lit_1) t17) w0 (fun t18 =>
  boI .add t15 t18 (fun t19 _ =>
  cvi .i64 t19 (fun t20 _ =>
  s21_p1 K t20 w) w0) w0)) w0) w0)) w0) w0) w0)) w0) w0)) w0
def s21_p2 (K : Value → World → Prop) (t0 : Value) (w : World) : Prop := s21_p2_d K t0 (drw w) (drw w)
def s21_p2_den (K : Value → World → Prop) : (Nat → Value) → World → Prop := denL Tryf.prog [(cd (Tryf.f21.body.getD .skip) [1, 0])] (s21_p1_den K) (fun i => (fun _ _ => False)) (s21_R K)
theorem s21_p2_ok (K : Value → World → Prop) (s : Nat → Value) (w : World) (h : s21_p2 K (s 0) w) : Tr (s21_p2_den K s w) :=
  tr_draw (P := Tryf.prog) (ops := (ro (cd (Tryf.f21.body.getD .skip) [1, 0]))) (ms := [0, 1, 3, 0, 8, 24, 56, 127, 0, 256, 768, 1792, 4095, 0, 8192, 24576, 65535, 131071, 262143]) (cs := [0, 1, 2, 3, 4, 5, 6, 7, 8, 9, 10, 11, 12, 13, 14, 15, 16, 17, 18]) (N := (fun s w => s21_p1 K (s 2) w)) (N' := (s21_p1_den K)) (s := s) (w := w) (p := s21_p2 K (s 0) w) (q := s21_p2_den K s w) (by kernel_rfl) (by kernel_rfl) (fun s w h => s21_p1_ok K s w @h) (by kernel_rfl) (by kernel_rfl) @h
def s21_p3 (K : Value → World → Prop) (t0 : Value) (w : World) : Prop :=
  s21_p2 K t0 w
def s21_p3_den (K : Value → World → Prop) : (Nat → Value) → World → Prop := denL Tryf.prog [(cd (Tryf.f21.body.getD .skip) [0])] (s21_p2_den K) (fun i => (fun _ _ => False)) (s21_R K)
theorem s21_p3_ok (K : Value → World → Prop) (s : Nat → Value) (w : World) (h : s21_p3 K (s 0) w) : Tr (s21_p3_den K s w) :=
  tr_simple (P := Tryf.prog) (codes := [(cd (Tryf.f21.body.getD .skip) [0])]) (N := (fun s w => s21_p2 K (s 0) w)) (N' := (s21_p2_den K)) (X := (fun i => (fun _ _ => False))) (X' := (fun i => (fun _ _ => False))) (R := s21_R K) (s := s) (w := w) (p := s21_p3 K (s 0) w) (q := s21_p3_den K s w) (fun s w h => s21_p2_ok K s w @h) (fun i => tr_id) (by kernel_rfl) (by kernel_rfl) @h
/-- the call, from the text -/
theorem c21 (t0 : Value) {K : Value → World → Prop} {w : World} (h : s21_p3 K t0 w) : cl Tryf.prog 21 #[t0] K w :=
  calls_of_tr (c := (Tryf.f21.body.getD .skip)) (fn := Tryf.f21) (q := s21_p3_den K (st0 #[t0]) w) Tryf.func21 (by kernel_rfl) (by kernel_rfl) (Nat.le_of_ble_eq_true (by kernel_rfl)) (by kernel_rfl) (by kernel_rfl) (s21_p3_ok K (st0 #[t0]) w @h)

/-! ### function 26 : (*e2e.disk.Disk).checkOne -/
def s26_R (K : Value → World → Prop) (s : Nat → Value) (w : World) : Prop := retv Tryf.prog s Tryf.f26.results.toList (fun vs => K (pack vs) w) w
def s26_p1 (K : Value → World → Prop) (t0 t1 t2 t3 t4 : Value) (w : World) : Prop :=
  nw 65 (t2).cells (fun t7 w =>
  nck t0 (fun t13 w =>
  fd 3 t13 (fun t14 w =>
  ld1 t14 (fun t15 w =>
  boI .neq t4 t15 (fun t16 w =>
  ifb t16
  (cl Tryf.prog 27 #[t0, (.int .u8 2), t1, t3, t4] (fun t21 w =>
  K t21 w) w)
  (fd 1 t7 (fun t23 w =>
  ld1 t23 (fun t24 w =>
  boI .geq t3 t24 (fun t25 w =>
  ifb t25
  (cl Tryf.prog 27 #[t0, (.int .u8 3), t1, t3, t4] (fun t30 w =>
  K t30 w) w)
  (K .nilIface w)) w) w) w)) w) w) w) w) w
def s26_p1_den (K : Value → World → Prop) : (Nat → Value) → World → Prop := denL Tryf.prog [(cd (Tryf.f26.body.getD .skip) [0]), (cd (Tryf.f26.body.getD .skip) [1, 0, 0]), (cd (Tryf.f26.body.getD .skip) [1, 0, 1]), (cd (Tryf.f26.body.getD .skip) [1, 1, 0, 0]), (cd (Tryf.f26.body.getD .skip) [1, 1, 0, 1]), (cd (Tryf.f26.body.getD .skip) [1, 1, 1, 0]), (cd (Tryf.f26.body.getD .skip) [1, 1, 1, 1])] (fun _ _ => False) (fun i => (fun _ _ => False)) (s26_R K)
theorem s26_p1_ok (K : Value → World → Prop) (s : Nat → Value) (w : World) (h : s26_p1 K (s 0) (s 1) (s 2) (s 3) (s 4) w) : Tr (s26_p1_den K s w) :=
  tr_simple (P := Tryf.prog) (codes := [(cd (Tryf.f26.body.getD .skip) [0]), (cd (Tryf.f26.body.getD .skip) [1, 0, 0]), (cd (Tryf.f26.body.getD .skip) [1, 0, 1]), (cd (Tryf.f26.body.getD .skip) [1, 1, 0, 0]), (cd (Tryf.f26.body.getD .skip) [1, 1, 0, 1]), (cd (Tryf.f26.body.getD .skip) [1, 1, 1, 0]), (cd (Tryf.f26.body.getD .skip) [1, 1, 1, 1])]) (N := (fun _ _ => False)) (N' := (fun _ _ => False)) (X := (fun i => (fun _ _ => False))) (X' := (fun i => (fun _ _ => False))) (R := s26_R K) (s := s) (w := w) (p := s26_p1 K (s 0) (s 1) (s 2) (s 3) (s 4) w) (q := s26_p1_den K s w) tr_id (fun i => tr_id) (by kernel_rfl) (by kernel_rfl) @h
/-- the call, from the text -/
theorem c26 (t0 t1 t2 t3 t4 : Value) {K : Value → World → Prop} {w : World} (h : s26_p1 K t0 t1 t2 t3 t4 w) : cl Tryf.prog 26 #[t0, t1, t2, t3, t4] K w :=
  calls_of_tr (c := (Tryf.f26.body.getD .skip)) (fn := Tryf.f26) (q := s26_p1_den K (st0 #[t0, t1, t2, t3, t4]) w) Tryf.func26 (by kernel_rfl) (by kernel_rfl) (Nat.le_of_ble_eq_true (by kernel_rfl)) (by kernel_rfl) (by kernel_rfl) (s26_p1_ok K (st0 #[t0, t1, t2, t3, t4]) w @h)

/-! ### function 28 : (*e2e.disk.cache).find -/
def s28_R (K : Value → World → Prop) (s : Nat → Value) (w : World) : Prop := retv Tryf.prog s Tryf.f28.results.toList (fun vs => K (pack vs) w) w
def s28_p1 (K : Value → World → Prop) (t0 t1 : Value) (w : World) : Prop :=
  nck t0 (fun t10 w =>
  fd 5 t10 (fun t11 w =>
  ld1 t11 (fun t12 w =>
  rs Tryf.prog (Instr.lookup 76 t12 t1 true) (fun t14 w =>
  exq t14 0 (fun t15 w =>
  exq t14 1 (fun t16 w =>
  un .not t16 (fun t18 w =>
  ifb t18
  (K (.tuple #[(.slice none 0 0), (.bool false)]) w)
  (cl Tryf.prog 34 #[t0, t15] (fun t21 w =>
  nck t21 (fun t22 w =>
  fd 1 t22 (fun t23 w =>
  ld1 t23 (fun t24 w =>
  K (.tuple #[t24, (.bool true)]) w) w) w) w) w)) w) w) w) w) w) w) w
def s28_p1_den (K : Value → World → Prop) : (Nat → Value) → World → Prop := denL Tryf.prog [(cd (Tryf.f28.body.getD .skip) [0]), (cd (Tryf.f28.body.getD .skip) [1, 0]), (cd (Tryf.f28.body.getD .skip) [1, 1, 0, 0]), (cd (Tryf.f28.body.getD .skip) [1, 1, 0, 1]), (cd (Tryf.f28.body.getD .skip) [1, 1, 1, 0]), (cd (Tryf.f28.body.getD .skip) [1, 1, 1, 1])] (fun _ _ => False) (fun i => (fun _ _ => False)) (s28_R K)
theorem s28_p1_ok (K : Value → World → Prop) (s : Nat → Value) (w : World) (h : s28_p1 K (s 0) (s 1) w) : Tr (s28_p1_den K s w) :=
  tr_simple (P := Tryf.prog) (codes := [(cd (Tryf.f28.body.getD .skip) [0]), (cd (Tryf.f28.body.getD .skip) [1, 0]), (cd (Tryf.f28.body.getD .skip) [1, 1, 0, 0]), (cd (Tryf.f28.body.getD .skip) [1, 1, 0, 1]), (cd (Tryf.f28.body.getD .skip) [1, 1, 1, 0]), (cd (Tryf.f28.body.getD .skip) [1, 1, 1, 1])]) (N := (fun _ _ => False)) (N' := (fun _ _ => False)) (X := (fun i => (fun _ _ => False))) (X' := (fun i => (fun _ _ => False))) (R := s28_R K) (s := s) (w := w) (p := s28_p1 K (s 0) (s 1) w) (q := s28_p1_den K s w) tr_id (fun i => tr_id) (by kernel_rfl) (by kernel_rfl) @h
/-- the call, from the text -/
theorem c28 (t0 t1 : Value) {K : Value → World → Prop} {w : World} (h : s28_p1 K t0 t1 w) : cl Tryf.prog 28 #[t0, t1] K w :=
  calls_of_tr (c := (Tryf.f28.body.getD .skip)) (fn := Tryf.f28) (q := s28_p1_den K (st0 #[t0, t1]) w) Tryf.func28 (by kernel_rfl) (by kernel_rfl) (Nat.le_of_ble_eq_true (by kernel_rfl)) (by kernel_rfl) (by kernel_rfl) (s28_p1_ok K (st0 #[t0, t1]) w @h)

/-! ### function 29 : e2e.disk.add -/
def s29_R (K : Value → World → Prop) (s : Nat → Value) (w : World) : Prop := retv Tryf.prog s Tryf.f29.results.toList (fun vs => K (pack vs) w) w
def s29_p1 (K : Value → World → Prop) (t0 t1 : Value) (w : World) : Prop :=
  nck t0 (fun t6 w =>
  ld1 t6 (fun t7 w =>
  boI .sub (.int .u64 18446744073709551615) t7 (fun t8 w =>
  boI .gtr t1 t8 (fun t9 w =>
  ifb t9
  (nck t0 (fun t11 w =>
  st1 t11 (.int .u64 18446744073709551615) (fun w =>
  K (.tuple #[]) w) w) w)
  (nck t0 (fun t13 w =>
  ld1 t13 (fun t14 w =>
  boI .add t14 t1 (fun t16 w =>
  nck t0 (fun t17 w =>
  st1 t17 t16 (fun w =>
  K (.tuple #[]) w) w) w) w) w) w)) w) w) w) w
def s29_p1_den (K : Value → World → Prop) : (Nat → Value) → World → Prop := denL Tryf.prog [(cd (Tryf.f29.body.getD .skip) [0, 0]), (cd (Tryf.f29.body.getD .skip) [0, 1]), (cd (Tryf.f29.body.getD .skip) [1])] (s29_R K) (fun i => (fun _ _ => False)) (s29_R K)
theorem s29_p1_ok (K : Value → World → Prop) (s : Nat → Value) (w : World) (h : s29_p1 K (s 0) (s 1) w) : Tr (s29_p1_den K s w) :=
  tr_simple (P := Tryf.prog) (codes := [(cd (Tryf.f29.body.getD .skip) [0, 0]), (cd (Tryf.f29.body.getD .skip) [0, 1]), (cd (Tryf.f29.body.getD .skip) [1])]) (N := (s29_R K)) (N' := (s29_R K)) (X := (fun i => (fun _ _ => False))) (X' := (fun i => (fun _ _ => False))) (R := s29_R K) (s := s) (w := w) (p := s29_p1 K (s 0) (s 1) w) (q := s29_p1_den K s w) tr_id (fun i => tr_id) (by kernel_rfl) (by kernel_rfl) @h
/-- the call, from the text -/
theorem c29 (t0 t1 : Value) {K : Value → World → Prop} {w : World} (h : s29_p1 K t0 t1 w) : cl Tryf.prog 29 #[t0, t1] K w :=
  calls_of_tr (c := (Tryf.f29.body.getD .skip)) (fn := Tryf.f29) (q := s29_p1_den K (st0 #[t0, t1]) w) Tryf.func29 (by kernel_rfl) (by kernel_rfl) (Nat.le_of_ble_eq_true (by kernel_rfl)) (by kernel_rfl) (by kernel_rfl) (s29_p1_ok K (st0 #[t0, t1]) w @h)

/-! ### function 30 : (*e2e.disk.media).read -/
def s30_R (K : Value → World → Prop) (s : Nat → Value) (w : World) : Prop := retv Tryf.prog s Tryf.f30.results.toList (fun vs => K (pack vs) w) w
def s30_p1 (K : Value → World → Prop) (t2 : Value) (w : World) : Prop :=
  rs Tryf.prog (Builtin.clear_ #[27] 0 #[t2]) (fun _ w =>
  K (.tuple #[]) w) w
def s30_p1_den (K : Value → World → Prop) : (Nat → Value) → World → Prop := denL Tryf.prog [(cd (Tryf.f30.body.getD .skip) [1, 1])] (s30_R K) (fun i => (fun _ _ => False)) (s30_R K)
theorem s30_p1_ok (K : Value → World → Prop) (s : Nat → Value) (w : World) (h : s30_p1 K (s 2) w) : Tr (s30_p1_den K s w) :=
  tr_simple (P := Tryf.prog) (codes := [(cd (Tryf.f30.body.getD .skip) [1, 1])]) (N := (s30_R K)) (N' := (s30_R K)) (X := (fun i => (fun _ _ => False))) (X' := (fun i => (fun _ _ => False))) (R := s30_R K) (s := s) (w := w) (p := s30_p1 K (s 2) w) (q := s30_p1_den K s w) tr_id (fun i => tr_id) (by kernel_rfl) (by kernel_rfl) @h
def s30_p2 (K : Value → World → Prop) (w : World) : Prop :=
  K (.tuple #[]) w
def s30_p2_den (K : Value → World → Prop) : (Nat → Value) → World → Prop := denL Tryf.prog [(cd (Tryf.f30.body.getD .skip) [1, 0, 1, 1, 0, 1])] (fun _ _ => False) (fun i => (fun _ _ => False)) (s30_R K)
theorem s30_p2_ok (K : Value → World → Prop) (s : Nat → Value) (w : World) (h : s30_p2 K w) : Tr (s30_p2_den K s w) :=
  tr_simple (P := Tryf.prog) (codes := [(cd (Tryf.f30.body.getD .skip) [1, 0, 1, 1, 0, 1])]) (N := (fun _ _ => False)) (N' := (fun _ _ => False)) (X := (fun i => (fun _ _ => False))) (X' := (fun i => (fun _ _ => False))) (R := s30_R K) (s := s) (w := w) (p := s30_p2 K w) (q := s30_p2_den K s w) tr_id (fun i => tr_id) (by kernel_rfl) (by kernel_rfl) @h
def s30_p3_d (K : Value → World → Prop) (t0 t2 t7 t8 : Value) (w0 w : World) : Prop :=
  nck t8 (fun t25 _ =>
  fd 1 t25 (fun t26 _ =>
  ld1 t26 (fun t27 _ =>
  nck t0 (fun t31 _ =>
  fd 0 t31 (fun t32 _ =>
  ld1 t32 (fun t33 _ =>
  boI .add t7 t33 (fun t34 _ =>
  sls 1 t27 (some t7) (some t34) (fun t35 _ =>
  cpq 1 t2 t35 (fun t36 w =>
  s30_p2 K w) w) w0) w0) w0) w0) w0) w0) w0) w0
def s30_p3 (K : Value → World → Prop) (t0 t2 t7 t8 : Value) (w : World) : Prop := s30_p3_d K t0 t2 t7 t8 (drw w) (drw w)
def s30_p3_den (K : Value → World → Prop) : (Nat → Value) → World → Prop := denL Tryf.prog [(cd (Tryf.f30.body.getD .skip) [1, 0, 1, 1, 0, 0])] (s30_p2_den K) (fun i => (fun _ _ => False)) (s30_R K)
theorem s30_p3_ok (K : Value → World → Prop) (s : Nat → Value) (w : World) (h : s30_p3 K (s 0) (s 2) (s 7) (s 8) w) : Tr (s30_p3_den K s w) :=
  tr_draw (P := Tryf.prog) (ops := (ro (cd (Tryf.f30.body.getD .skip) [1, 0, 1, 1, 0, 0]))) (ms := [0, 0, 2, 6, 14, 0, 0, 0, 128, 384, 896, 1984, 4094, 8191]) (cs := [0, 1, 2, 3, 4, 5, 6, 7, 8, 9, 10, 11, 12]) (N := (fun s w => s30_p2 K w)) (N' := (s30_p2_den K)) (s := s) (w := w) (p := s30_p3 K (s 0) (s 2) (s 7) (s 8) w) (q := s30_p3_den K s w) (by kernel_rfl) (by kernel_rfl) (fun s w h => s30_p2_ok K s w @h) (by kernel_rfl) (by kernel_rfl) @h
def s30_p4 (K : Value → World → Prop) (t0 t2 t7 t8 t22 : Value) (w : World) : Prop :=
  ifb t22
  (s30_p3 K t0 t2 t7 t8 w)
  (s30_p1 K t2 w)
def s30_p4_den (K : Value → World → Prop) : (Nat → Value) → World → Prop := fun s w => ifb (ev s (.tmp 22)) ((s30_p3_den K) s w) ((s30_p1_den K) s w)
theorem s30_p4_ok (K : Value → World → Prop) (s : Nat → Value) (w : World) (h : s30_p4 K (s 0) (s 2) (s 7) (s 8) (s 22) w) : Tr (s30_p4_den K s w) :=
  tr_cond (v := ev s (.tmp 22)) (a := (fun s w => s30_p3 K (s 0) (s 2) (s 7) (s 8) w) s w) (a' := (s30_p3_den K) s w) (b := (fun s w => s30_p1 K (s 2) w) s w) (b' := (s30_p1_den K) s w) (p := s30_p4 K (s 0) (s 2) (s 7) (s 8) (s 22) w) (q := s30_p4_den K s w) ((fun s w h => s30_p3_ok K s w @h) s w) ((fun s w h => s30_p1_ok K s w @h) s w) (by kernel_rfl) (by kernel_rfl) @h
def s30_p5 (K : Value → World → Prop) (t0 t1 t2 : Value) (w : World) : Prop :=
  cl Tryf.prog 35 #[t0, t1] (fun t12 w =>
  exq t12 0 (fun t13 w =>
  exq t12 1 (fun t14 w =>
  nck t0 (fun t16 w =>
  fd 4 t16 (fun t17 w =>
  ld1 t17 (fun t18 w =>
  rs Tryf.prog (Instr.lookup 69 t18 t13 false) (fun t20 w =>
  boP .neq t20 (.pointer none) (fun t22 w =>
  s30_p4 K t0 t2 t14 t20 t22 w) w) w) w) w) w) w) w) w
def s30_p5_den (K : Value → World → Prop) : (Nat → Value) → World → Prop := denL Tryf.prog [(cd (Tryf.f30.body.getD .skip) [0]), (cd (Tryf.f30.body.getD .skip) [1, 0, 0]), (cd (Tryf.f30.body.getD .skip) [1, 0, 1, 0])] (s30_p4_den K) (fun i => (fun _ _ => False)) (s30_R K)
theorem s30_p5_ok (K : Value → World → Prop) (s : Nat → Value) (w : World) (h : s30_p5 K (s 0) (s 1) (s 2) w) : Tr (s30_p5_den K s w) :=
  tr_simple (P := Tryf.prog) (codes := [(cd (Tryf.f30.body.getD .skip) [0]), (cd (Tryf.f30.body.getD .skip) [1, 0, 0]), (cd (Tryf.f30.body.getD .skip) [1, 0, 1, 0])]) (N := (fun s w => s30_p4 K (s 0) (s 2) (s 7) (s 8) (s 22) w)) (N' := (s30_p4_den K)) (X := (fun i => (fun _ _ => False))) (X' := (fun i => (fun _ _ => False))) (R := s30_R K) (s := s) (w := w) (p := s30_p5 K (s 0) (s 1) (s 2) w) (q := s30_p5_den K s w) (fun s w h => s30_p4_ok K s w @h) (fun i => tr_id) (by kernel_rfl) (by kernel_rfl) @h
/-- the call, from the text -/
theorem c30 (t0 t1 t2 : Value) {K : Value → World → Prop} {w : World} (h : s30_p5 K t0 t1 t2 w) : cl Tryf.prog 30 #[t0, t1, t2] K w :=
  calls_of_tr (c := (Tryf.f30.body.getD .skip)) (fn := Tryf.f30) (q := s30_p5_den K (st0 #[t0, t1, t2]) w) Tryf.func30 (by kernel_rfl) (by kernel_rfl) (Nat.le_of_ble_eq_true (by kernel_rfl)) (by kernel_rfl) (by kernel_rfl) (s30_p5_ok K (st0 #[t0, t1, t2]) w @h)

/-! ### function 35 : (*e2e.disk.media).locate -/
def s35_R (K : Value → World → Prop) (s : Nat → Value) (w : World) : Prop := retv Tryf.prog s Tryf.f35.results.toList (fun vs => K (pack vs) w) w
def s35_p1 (K : Value → World → Prop) (t4 t5 : Value) (w : World) : Prop :=
  K (.tuple #[t4, t5]) w
def s35_p1_den (K : Value → World → Prop) : (Nat → Value) → World → Prop := denL Tryf.prog [(cd (Tryf.f35.body.getD .skip) [1, 1])] (fun _ _ => False) (fun i => (fun _ _ => False)) (s35_R K)
theorem s35_p1_ok (K : Value → World → Prop) (s : Nat → Value) (w : World) (h : s35_p1 K (s 4) (s 5) w) : Tr (s35_p1_den K s w) :=
  tr_simple (P := Tryf.prog) (codes := [(cd (Tryf.f35.body.getD .skip) [1, 1])]) (N := (fun _ _ => False)) (N' := (fun _ _ => False)) (X := (fun i => (fun _ _ => False))) (X' := (fun i => (fun _ _ => False))) (R := s35_R K) (s := s) (w := w) (p := s35_p1 K (s 4) (s 5) w) (q := s35_p1_den K s w) tr_id (fun i => tr_id) (by kernel_rfl) (by kernel_rfl) @h
def s35_p2_d (K : Value → World → Prop) (t0 t1 : Value) (w0 w : World) : Prop :=
  nck t0 (fun t8 _ =>
  fd 2 t8 (fun t9 _ =>
  ld1 t9 (fun t10 _ =>
  boI .shr t1 t10 (fun t11 _ =>
  nck t0 (fun t14 _ =>
  fd 3 t14 (fun t15 _ =>
  ld1 t15 (fun t16 _ =>
  boI .and t1 t16 (fun t17 _ =>
  cvi .i64 t17 (fun t18 _ =>
  nck t0 (fun t20 _ =>
  fd 0 t20 (fun t21 _ =>
  ld1 t21 (fun t22 _ =>
  boI .mul t18 t22 (fun t23 _ =>
  s35_p1 K t11 t23 w) w0) w0) w0) w0) w0) w0) w0) w0) w0) w0) w0) w0) w0
def s35_p2 (K : Value → World → Prop) (t0 t1 : Value) (w : World) : Prop := s35_p2_d K t0 t1 (drw w) (drw w)
def s35_p2_den (K : Value → World → Prop) : (Nat → Value) → World → Prop := denL Tryf.prog [(cd (Tryf.f35.body.getD .skip) [1, 0])] (s35_p1_den K) (fun i => (fun _ _ => False)) (s35_R K)
theorem s35_p2_ok (K : Value → World → Prop) (s : Nat → Value) (w : World) (h : s35_p2 K (s 0) (s 1) w) : Tr (s35_p2_den K s w) :=
  tr_draw (P := Tryf.prog) (ops := (ro (cd (Tryf.f35.body.getD .skip) [1, 0]))) (ms := [0, 0, 2, 6, 14, 31, 0, 0, 128, 384, 896, 1984, 4032, 0, 8192, 24576, 57344, 131008, 63, 524287]) (cs := [0, 1, 2, 3, 4, 5, 6, 7, 8, 9, 10, 11, 12, 13, 14, 15, 16, 17, 18, 19]) (N := (fun s w => s35_p1 K (s 4) (s 5) w)) (N' := (s35_p1_den K)) (s := s) (w := w) (p := s35_p2 K (s 0) (s 1) w) (q := s35_p2_den K s w) (by kernel_rfl) (by kernel_rfl) (fun s w h => s35_p1_ok K s w @h) (by kernel_rfl) (by kernel_rfl) @h
def s35_p3 (K : Value → World → Prop) (t0 t1 : Value) (w : World) : Prop :=
  s35_p2 K t0 t1 w
def s35_p3_den (K : Value → World → Prop) : (Nat → Value) → World → Prop := denL Tryf.prog [(cd (Tryf.f35.body.getD .skip) [0])] (s35_p2_den K) (fun i => (fun _ _ => False)) (s35_R K)
theorem s35_p3_ok (K : Value → World → Prop) (s : Nat → Value) (w : World) (h : s35_p3 K (s 0) (s 1) w) : Tr (s35_p3_den K s w) :=
  tr_simple (P := Tryf.prog) (codes := [(cd (Tryf.f35.body.getD .skip) [0])]) (N := (fun s w => s35_p2 K (s 0) (s 1) w)) (N' := (s35_p2_den K)) (X := (fun i => (fun _ _ => False))) (X' := (fun i => (fun _ _ => False))) (R := s35_R K) (s := s) (w := w) (p := s35_p3 K (s 0) (s 1) w) (q := s35_p3_den K s w) (fun s w h => s35_p2_ok K s w @h) (fun i => tr_id) (by kernel_rfl) (by kernel_rfl) @h
/-- the call, from the text -/
theorem c35 (t0 t1 : Value) {K : Value → World → Prop} {w : World} (h : s35_p3 K t0 t1 w) : cl Tryf.prog 35 #[t0, t1] K w :=
  calls_of_tr (c := (Tryf.f35.body.getD .skip)) (fn := Tryf.f35) (q := s35_p3_den K (st0 #[t0, t1]) w) Tryf.func35 (by kernel_rfl) (by kernel_rfl) (Nat.le_of_ble_eq_true (by kernel_rfl)) (by kernel_rfl) (by kernel_rfl) (s35_p3_ok K (st0 #[t0, t1]) w @h)

end Go.Proofs.Qxb6500899aFmt
