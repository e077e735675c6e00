import Derived.Test.Qxb6500896aGreatProg
import Derived.Test.Qxb6500896aGreatShTr
namespace Go.Proofs.Qxb6500896aGreat
open Go.Sh Go.RowKit
set_option linter.unusedVariables false
set_option maxRecDepth 100000

/-! ### function 15 : e2e.enginelaw.OtherRulesAreRefused -/
def s15_R (K : Value → World → Prop) (s : Nat → Value) (w : World) : Prop := retv Tryz.prog s Tryz.f15.results.toList (fun vs => K (pack vs) w) w
def s15_p1 (K : Value → World → Prop) (t2 : Value) (w : World) : Prop :=
  K t2 w
def s15_p1_den (K : Value → World → Prop) : (Nat → Value) → World → Prop := denL Tryz.prog [(cd (Tryz.f15.body.getD .skip) [1, 1, 1, 1, 1, 1, 1, 1, 1, 1, 1, 1, 1])] (fun _ _ => False) (fun i => (fun _ _ => False)) (s15_R K)
theorem s15_p1_ok (K : Value → World → Prop) (s : Nat → Value) (w : World) (h : s15_p1 K (s 2) w) : Tr (s15_p1_den K s w) :=
  tr_simple (P := Tryz.prog) (codes := [(cd (Tryz.f15.body.getD .skip) [1, 1, 1, 1, 1, 1, 1, 1, 1, 1, 1, 1, 1])]) (N := (fun _ _ => False)) (N' := (fun _ _ => False)) (X := (fun i => (fun _ _ => False))) (X' := (fun i => (fun _ _ => False))) (R := s15_R K) (s := s) (w := w) (p := s15_p1 K (s 2) w) (q := s15_p1_den K s w) tr_id (fun i => tr_id) (by kernel_rfl) (by kernel_rfl) @h
def s15_p2_d (K : Value → World → Prop) (t3 t10 t11 : Value) (w0 w : World) : Prop :=
  boF Tryz.prog true .eql t11 .nilIface (fun t88 _ =>
  gd t88 true (fun K w => K t10 w) (fun t90 _ =>
  gd t88 true (fun K w => K t3 w) (fun t92 _ =>
  gd t88 true (nck t92) (fun t93 _ =>
  gd t88 true (fd 1 t93) (fun t94 _ =>
  gd t88 true (ld1 t94) (fun t95 _ =>
  gd t88 true (cl Tryz.prog 27 #[t90]) (fun t91 w =>
  Below w0.heap.size w0 w ∧
  gd t88 true (cl Tryz.prog 27 #[t95]) (fun t96 w =>
  gd t88 true (boI .eql t91 t96) (fun t97 w =>
  pk t88 t97 (.bool false) (fun t98 w =>
  (gd t98 true (fun K w => K t10 w) (fun t100 w =>
  (gd t98 true (cl Tryz.prog 50 #[t100]) (fun t101 w =>
  gd t98 true (fun K w => K t3 w) (fun t102 w =>
  gd t98 true (nck t102) (fun t103 w =>
  gd t98 true (fd 1 t103) (fun t104 w =>
  gd t98 true (ld1 t104) (fun t105 w =>
  gd t98 true (cl Tryz.prog 50 #[t105]) (fun t106 w =>
  gd t98 true (boI .eql t101 t106) (fun t107 w =>
  pk t98 t107 (.bool false) (fun t108 w =>
  gd t108 true (fun K w => K t10 w) (fun t110 w =>
  gd t108 true (cl Tryz.prog 49 #[t110]) (fun t111 w =>
  gd t108 true (fi Tryz.prog 102 t111 4) (fun t112 w =>
  gd t108 true (boI .eql t112 (.int .i64 0)) (fun t113 w =>
  pk t108 t113 (.bool false) (fun t114 w =>
  s15_p1 K t114 w) w) w) w) w) w) w) w) w) w) w) w) w) w) ∧
  (gd t98 true (fun K w => K t3 w) (fun t102_2 w =>
  (gd t98 true (cl Tryz.prog 50 #[t100]) (fun t101_2 w =>
  gd t98 true (nck t102_2) (fun t103_2 w =>
  gd t98 true (fd 1 t103_2) (fun t104_2 w =>
  gd t98 true (ld1 t104_2) (fun t105_2 w =>
  gd t98 true (cl Tryz.prog 50 #[t105_2]) (fun t106_2 w =>
  gd t98 true (boI .eql t101_2 t106_2) (fun t107_2 w =>
  pk t98 t107_2 (.bool false) (fun t108_2 w =>
  gd t108_2 true (fun K w => K t10 w) (fun t110_2 w =>
  gd t108_2 true (cl Tryz.prog 49 #[t110_2]) (fun t111_2 w =>
  gd t108_2 true (fi Tryz.prog 102 t111_2 4) (fun t112_2 w =>
  gd t108_2 true (boI .eql t112_2 (.int .i64 0)) (fun t113_2 w =>
  pk t108_2 t113_2 (.bool false) (fun t114_2 w =>
  s15_p1 K t114_2 w) w) w) w) w) w) w) w) w) w) w) w) w) ∧
  (gd t98 true (nck t102_2) (fun t103_3 w =>
  (gd t98 true (cl Tryz.prog 50 #[t100]) (fun t101_3 w =>
  gd t98 true (fd 1 t103_3) (fun t104_3 w =>
  gd t98 true (ld1 t104_3) (fun t105_3 w =>
  gd t98 true (cl Tryz.prog 50 #[t105_3]) (fun t106_3 w =>
  gd t98 true (boI .eql t101_3 t106_3) (fun t107_3 w =>
  pk t98 t107_3 (.bool false) (fun t108_3 w =>
  gd t108_3 true (fun K w => K t10 w) (fun t110_3 w =>
  gd t108_3 true (cl Tryz.prog 49 #[t110_3]) (fun t111_3 w =>
  gd t108_3 true (fi Tryz.prog 102 t111_3 4) (fun t112_3 w =>
  gd t108_3 true (boI .eql t112_3 (.int .i64 0)) (fun t113_3 w =>
  pk t108_3 t113_3 (.bool false) (fun t114_3 w =>
  s15_p1 K t114_3 w) w) w) w) w) w) w) w) w) w) w) w) ∧
  (gd t98 true (fd 1 t103_3) (fun t104_4 w =>
  (gd t98 true (cl Tryz.prog 50 #[t100]) (fun t101_4 w =>
  gd t98 true (ld1 t104_4) (fun t105_4 w =>
  gd t98 true (cl Tryz.prog 50 #[t105_4]) (fun t106_4 w =>
  gd t98 true (boI .eql t101_4 t106_4) (fun t107_4 w =>
  pk t98 t107_4 (.bool false) (fun t108_4 w =>
  gd t108_4 true (fun K w => K t10 w) (fun t110_4 w =>
  gd t108_4 true (cl Tryz.prog 49 #[t110_4]) (fun t111_4 w =>
  gd t108_4 true (fi Tryz.prog 102 t111_4 4) (fun t112_4 w =>
  gd t108_4 true (boI .eql t112_4 (.int .i64 0)) (fun t113_4 w =>
  pk t108_4 t113_4 (.bool false) (fun t114_4 w =>
  s15_p1 K t114_4 w) w) w) w) w) w) w) w) w) w) w) ∧
  (gd t98 true (ld1 t104_4) (fun t105_5 w =>
  gd t98 true (cl Tryz.prog 50 #[t100]) (fun t101_5 w =>
  gd t98 true (cl Tryz.prog 50 #[t105_5]) (fun t106_5 w =>
  gd t98 true (boI .eql t101_5 t106_5) (fun t107_5 w =>
  pk t98 t107_5 (.bool false) (fun t108_5 w =>
  gd t108_5 true (fun K w => K t10 w) (fun t110_5 w =>
  gd t108_5 true (cl Tryz.prog 49 #[t110_5]) (fun t111_5 w =>
  gd t108_5 true (fi Tryz.prog 102 t111_5 4) (fun t112_5 w =>
  gd t108_5 true (boI .eql t112_5 (.int .i64 0)) (fun t113_5 w =>
  pk t108_5 t113_5 (.bool false) (fun t114_5 w =>
  s15_p1 K t114_5 w) w) w) w) w) w) w) w) w) w) w)) w)) w)) w)) w) ∧
  (gd t98 true (fun K w => K t3 w) (fun t102_3 w =>
  (gd t98 true (fun K w => K t10 w) (fun t100_2 w =>
  (gd t98 true (cl Tryz.prog 50 #[t100_2]) (fun t101_6 w =>
  gd t98 true (nck t102_3) (fun t103_4 w =>
  gd t98 true (fd 1 t103_4) (fun t104_5 w =>
  gd t98 true (ld1 t104_5) (fun t105_6 w =>
  gd t98 true (cl Tryz.prog 50 #[t105_6]) (fun t106_6 w =>
  gd t98 true (boI .eql t101_6 t106_6) (fun t107_6 w =>
  pk t98 t107_6 (.bool false) (fun t108_6 w =>
  gd t108_6 true (fun K w => K t10 w) (fun t110_6 w =>
  gd t108_6 true (cl Tryz.prog 49 #[t110_6]) (fun t111_6 w =>
  gd t108_6 true (fi Tryz.prog 102 t111_6 4) (fun t112_6 w =>
  gd t108_6 true (boI .eql t112_6 (.int .i64 0)) (fun t113_6 w =>
  pk t108_6 t113_6 (.bool false) (fun t114_6 w =>
  s15_p1 K t114_6 w) w) w) w) w) w) w) w) w) w) w) w) w) ∧
  (gd t98 true (nck t102_3) (fun t103_5 w =>
  (gd t98 true (cl Tryz.prog 50 #[t100_2]) (fun t101_7 w =>
  gd t98 true (fd 1 t103_5) (fun t104_6 w =>
  gd t98 true (ld1 t104_6) (fun t105_7 w =>
  gd t98 true (cl Tryz.prog 50 #[t105_7]) (fun t106_7 w =>
  gd t98 true (boI .eql t101_7 t106_7) (fun t107_7 w =>
  pk t98 t107_7 (.bool false) (fun t108_7 w =>
  gd t108_7 true (fun K w => K t10 w) (fun t110_7 w =>
  gd t108_7 true (cl Tryz.prog 49 #[t110_7]) (fun t111_7 w =>
  gd t108_7 true (fi Tryz.prog 102 t111_7 4) (fun t112_7 w =>
  gd t108_7 true (boI .eql t112_7 (.int .i64 0)) (fun t113_7 w =>
  pk t108_7 t113_7 (.bool false) (fun t114_7 w =>
  s15_p1 K t114_7 w) w) w) w) w) w) w) w) w) w) w) w) ∧
  (gd t98 true (fd 1 t103_5) (fun t104_7 w =>
  (gd t98 true (cl Tryz.prog 50 #[t100_2]) (fun t101_8 w =>
  gd t98 true (ld1 t104_7) (fun t105_8 w =>
  gd t98 true (cl Tryz.prog 50 #[t105_8]) (fun t106_8 w =>
  gd t98 true (boI .eql t101_8 t106_8) (fun t107_8 w =>
  pk t98 t107_8 (.bool false) (fun t108_8 w =>
  gd t108_8 true (fun K w => K t10 w) (fun t110_8 w =>
  gd t108_8 true (cl Tryz.prog 49 #[t110_8]) (fun t111_8 w =>
  gd t108_8 true (fi Tryz.prog 102 t111_8 4) (fun t112_8 w =>
  gd t108_8 true (boI .eql t112_8 (.int .i64 0)) (fun t113_8 w =>
  pk t108_8 t113_8 (.bool false) (fun t114_8 w =>
  s15_p1 K t114_8 w) w) w) w) w) w) w) w) w) w) w) ∧
  (gd t98 true (ld1 t104_7) (fun t105_9 w =>
  gd t98 true (cl Tryz.prog 50 #[t100_2]) (fun t101_9 w =>
  gd t98 true (cl Tryz.prog 50 #[t105_9]) (fun t106_9 w =>
  gd t98 true (boI .eql t101_9 t106_9) (fun t107_9 w =>
  pk t98 t107_9 (.bool false) (fun t108_9 w =>
  gd t108_9 true (fun K w => K t10 w) (fun t110_9 w =>
  gd t108_9 true (cl Tryz.prog 49 #[t110_9]) (fun t111_9 w =>
  gd t108_9 true (fi Tryz.prog 102 t111_9 4) (fun t112_9 w =>
  gd t108_9 true (boI .eql t112_9 (.int .i64 0)) (fun t113_9 w =>
  pk t108_9 t113_9 (.bool false) (fun t114_9 w =>
  s15_p1 K t114_9 w) w) w) w) w) w) w) w) w) w) w)) w)) w)) w) ∧
  (gd t98 true (nck t102_3) (fun t103_6 w =>
  (gd t98 true (fun K w => K t10 w) (fun t100_3 w =>
  (gd t98 true (cl Tryz.prog 50 #[t100_3]) (fun t101_10 w =>
  gd t98 true (fd 1 t103_6) (fun t104_8 w =>
  gd t98 true (ld1 t104_8) (fun t105_10 w =>
  gd t98 true (cl Tryz.prog 50 #[t105_10]) (fun t106_10 w =>
  gd t98 true (boI .eql t101_10 t106_10) (fun t107_10 w =>
  pk t98 t107_10 (.bool false) (fun t108_10 w =>
  gd t108_10 true (fun K w => K t10 w) (fun t110_10 w =>
  gd t108_10 true (cl Tryz.prog 49 #[t110_10]) (fun t111_10 w =>
  gd t108_10 true (fi Tryz.prog 102 t111_10 4) (fun t112_10 w =>
  gd t108_10 true (boI .eql t112_10 (.int .i64 0)) (fun t113_10 w =>
  pk t108_10 t113_10 (.bool false) (fun t114_10 w =>
  s15_p1 K t114_10 w) w) w) w) w) w) w) w) w) w) w) w) ∧
  (gd t98 true (fd 1 t103_6) (fun t104_9 w =>
  (gd t98 true (cl Tryz.prog 50 #[t100_3]) (fun t101_11 w =>
  gd t98 true (ld1 t104_9) (fun t105_11 w =>
  gd t98 true (cl Tryz.prog 50 #[t105_11]) (fun t106_11 w =>
  gd t98 true (boI .eql t101_11 t106_11) (fun t107_11 w =>
  pk t98 t107_11 (.bool false) (fun t108_11 w =>
  gd t108_11 true (fun K w => K t10 w) (fun t110_11 w =>
  gd t108_11 true (cl Tryz.prog 49 #[t110_11]) (fun t111_11 w =>
  gd t108_11 true (fi Tryz.prog 102 t111_11 4) (fun t112_11 w =>
  gd t108_11 true (boI .eql t112_11 (.int .i64 0)) (fun t113_11 w =>
  pk t108_11 t113_11 (.bool false) (fun t114_11 w =>
  s15_p1 K t114_11 w) w) w) w) w) w) w) w) w) w) w) ∧
  (gd t98 true (ld1 t104_9) (fun t105_12 w =>
  gd t98 true (cl Tryz.prog 50 #[t100_3]) (fun t101_12 w =>
  gd t98 true (cl Tryz.prog 50 #[t105_12]) (fun t106_12 w =>
  gd t98 true (boI .eql t101_12 t106_12) (fun t107_12 w =>
  pk t98 t107_12 (.bool false) (fun t108_12 w =>
  gd t108_12 true (fun K w => K t10 w) (fun t110_12 w =>
  gd t108_12 true (cl Tryz.prog 49 #[t110_12]) (fun t111_12 w =>
  gd t108_12 true (fi Tryz.prog 102 t111_12 4) (fun t112_12 w =>
  gd t108_12 true (boI .eql t112_12 (.int .i64 0)) (fun t113_12 w =>
  pk t108_12 t113_12 (.bool false) (fun t114_12 w =>
  s15_p1 K t114_12 w) w) w) w) w) w) w) w) w) w) w)) w)) w) ∧
  (gd t98 true (fd 1 t103_6) (fun t104_10 w =>
  (gd t98 true (fun K w => K t10 w) (fun t100_4 w =>
  (gd t98 true (cl Tryz.prog 50 #[t100_4]) (fun t101_13 w =>
  gd t98 true (ld1 t104_10) (fun t105_13 w =>
  gd t98 true (cl Tryz.prog 50 #[t105_13]) (fun t106_13 w =>
  gd t98 true (boI .eql t101_13 t106_13) (fun t107_13 w =>
  pk t98 t107_13 (.bool false) (fun t108_13 w =>
  gd t108_13 true (fun K w => K t10 w) (fun t110_13 w =>
  gd t108_13 true (cl Tryz.prog 49 #[t110_13]) (fun t111_13 w =>
  gd t108_13 true (fi Tryz.prog 102 t111_13 4) (fun t112_13 w =>
  gd t108_13 true (boI .eql t112_13 (.int .i64 0)) (fun t113_13 w =>
  pk t108_13 t113_13 (.bool false) (fun t114_13 w =>
  s15_p1 K t114_13 w) w) w) w) w) w) w) w) w) w) w) ∧
  (gd t98 true (ld1 t104_10) (fun t105_14 w =>
  gd t98 true (cl Tryz.prog 50 #[t100_4]) (fun t101_14 w =>
  gd t98 true (cl Tryz.prog 50 #[t105_14]) (fun t106_14 w =>
  gd t98 true (boI .eql t101_14 t106_14) (fun t107_14 w =>
  pk t98 t107_14 (.bool false) (fun t108_14 w =>
  gd t108_14 true (fun K w => K t10 w) (fun t110_14 w =>
  gd t108_14 true (cl Tryz.prog 49 #[t110_14]) (fun t111_14 w =>
  gd t108_14 true (fi Tryz.prog 102 t111_14 4) (fun t112_14 w =>
  gd t108_14 true (boI .eql t112_14 (.int .i64 0)) (fun t113_14 w =>
  pk t108_14 t113_14 (.bool false) (fun t114_14 w =>
  s15_p1 K t114_14 w) w) w) w) w) w) w) w) w) w) w)) w) ∧
  (gd t98 true (ld1 t104_10) (fun t105_15 w =>
  gd t98 true (fun K w => K t10 w) (fun t100_5 w =>
  gd t98 true (cl Tryz.prog 50 #[t100_5]) (fun t101_15 w =>
  gd t98 true (cl Tryz.prog 50 #[t105_15]) (fun t106_15 w =>
  gd t98 true (boI .eql t101_15 t106_15) (fun t107_15 w =>
  pk t98 t107_15 (.bool false) (fun t108_15 w =>
  gd t108_15 true (fun K w => K t10 w) (fun t110_15 w =>
  gd t108_15 true (cl Tryz.prog 49 #[t110_15]) (fun t111_15 w =>
  gd t108_15 true (fi Tryz.prog 102 t111_15 4) (fun t112_15 w =>
  gd t108_15 true (boI .eql t112_15 (.int .i64 0)) (fun t113_15 w =>
  pk t108_15 t113_15 (.bool false) (fun t114_15 w =>
  s15_p1 K t114_15 w) w) w) w) w) w) w) w) w) w) w) w)) w)) w)) w)) w) w) w) w) w0) w0) w0) w0) w0) w0
def s15_p2 (K : Value → World → Prop) (t3 t10 t11 : Value) (w : World) : Prop := s15_p2_d K t3 t10 t11 (drw w) (drw w)
def s15_p2_den (K : Value → World → Prop) : (Nat → Value) → World → Prop := denL Tryz.prog [(cd (Tryz.f15.body.getD .skip) [1, 1, 1, 1, 1, 1, 1, 1, 1, 1, 1, 1, 0])] (s15_p1_den K) (fun i => (fun _ _ => False)) (s15_R K)
theorem s15_p2_ok (K : Value → World → Prop) (s : Nat → Value) (w : World) (h : s15_p2 K (s 3) (s 10) (s 11) w) : Tr (s15_p2_den K s w) :=
  tr_draw (P := Tryz.prog) (ops := (ro (cd (Tryz.f15.body.getD .skip) [1, 1, 1, 1, 1, 1, 1, 1, 1, 1, 1, 1, 0]))) (ms := [0, 1, 3, 7, 15, 7, 39, 103, 231, 511, 1023, 2047, 4095, 8191, 16383, 8191, 40959, 106495, 237567, 524287, 1048575, 2097151, 4194303, 8388607, 16777215, 33554431, 67108863, 134217727, 268435455]) (cs := [0, 1, 2, 3, 5, 6, 7, 8]) (N := (fun s w => s15_p1 K (s 2) w)) (N' := (s15_p1_den K)) (s := s) (w := w) (p := s15_p2 K (s 3) (s 10) (s 11) w) (q := s15_p2_den K s w) (by kernel_rfl) (by kernel_rfl) (fun s w h => s15_p1_ok K s w @h) (by kernel_rfl) (by kernel_rfl) @h
def s15_p3_d (K : Value → World → Prop) (t3 t9 : Value) (w0 w : World) : Prop :=
  ldn 14 t9 (fun t78 _ =>
  nck t3 (fun t80 _ =>
  fd 0 t80 (fun t81 _ =>
  ld1 t81 (fun t82 _ =>
  cl Tryz.prog 39 #[t82] (fun t83 w =>
  Below w0.heap.size w0 w ∧
  cl Tryz.prog 38 #[t78, t83] (fun t84 w =>
  (exq t84 0 (fun t85 w =>
  (exq t84 1 (fun t86 w =>
  s15_p2 K t3 t85 t86 w) w) ∧
  (exq t84 1 (fun t86_2 w =>
  s15_p2 K t3 t85 t86_2 w) w)) w) ∧
  (exq t84 1 (fun t86_3 w =>
  exq t84 0 (fun t85_2 w =>
  s15_p2 K t3 t85_2 t86_3 w) w) w)) w) w) w0) w0) w0) w0
def s15_p3 (K : Value → World → Prop) (t3 t9 : Value) (w : World) : Prop := s15_p3_d K t3 t9 (drw w) (drw w)
def s15_p3_den (K : Value → World → Prop) : (Nat → Value) → World → Prop := denL Tryz.prog [(cd (Tryz.f15.body.getD .skip) [1, 1, 1, 1, 1, 1, 1, 1, 1, 1, 1, 0])] (s15_p2_den K) (fun i => (fun _ _ => False)) (s15_R K)
theorem s15_p3_ok (K : Value → World → Prop) (s : Nat → Value) (w : World) (h : s15_p3 K (s 3) (s 9) w) : Tr (s15_p3_den K s w) :=
  tr_draw (P := Tryz.prog) (ops := (ro (cd (Tryz.f15.body.getD .skip) [1, 1, 1, 1, 1, 1, 1, 1, 1, 1, 1, 0]))) (ms := [0, 0, 2, 6, 14, 30, 63, 127, 255, 255, 511, 2047]) (cs := [0, 1, 2, 3, 4]) (N := (fun s w => s15_p2 K (s 3) (s 10) (s 11) w)) (N' := (s15_p2_den K)) (s := s) (w := w) (p := s15_p3 K (s 3) (s 9) w) (q := s15_p3_den K s w) (by kernel_rfl) (by kernel_rfl) (fun s w h => s15_p2_ok K s w @h) (by kernel_rfl) (by kernel_rfl) @h
def s15_p4 (K : Value → World → Prop) (t3 t7 t8 : Value) (w : World) : Prop :=
  boP .neq t7 (.pointer none) (fun t62 w =>
  gd t62 false (fun K w => K t8 w) (fun t64 w =>
  gd t62 false (cl Tryz.prog 51 #[t64]) (fun t65 w =>
  gd t62 false (boI .neq t65 (.int .i64 20)) (fun t66 w =>
  pk t62 (.bool true) t66 (fun t67 w =>
  ifb t67
  (K (.bool false) w)
  (cl Tryz.prog 21 #[] (fun t68 w =>
  nw 34 #[(.slice none 0 0), (.slice none 0 0), (.int .i64 0), (.int .i64 0), (.int .i64 0), (.int .i64 0), (.int .i64 0), (.int .i64 0), (.int .i64 0), (.int .i64 0), (.int .i64 0), (.int .i64 0), (.int .i64 0), (.int .i64 0)] (fun t9 w =>
  stn 14 t9 t68 (fun w =>
  fd 12 t9 (fun t69 w =>
  ld1 t69 (fun t70 w =>
  boI .add t70 (.int .i64 3) (fun t71 w =>
  fd 12 t9 (fun t72 w =>
  st1 t72 t71 (fun w =>
  fd 13 t9 (fun t73 w =>
  ld1 t73 (fun t74 w =>
  boI .add t74 (.int .i64 2) (fun t75 w =>
  fd 13 t9 (fun t76 w =>
  st1 t76 t75 (fun w =>
  s15_p3 K t3 t9 w) w) w) w) w) w) w) w) w) w) w) w) w) w)) w) w) w) w) w
def s15_p4_den (K : Value → World → Prop) : (Nat → Value) → World → Prop := denL Tryz.prog [(cd (Tryz.f15.body.getD .skip) [1, 1, 1, 1, 1, 1, 1, 0, 1, 0]), (cd (Tryz.f15.body.getD .skip) [1, 1, 1, 1, 1, 1, 1, 0, 1, 1]), (cd (Tryz.f15.body.getD .skip) [1, 1, 1, 1, 1, 1, 1, 1, 0]), (cd (Tryz.f15.body.getD .skip) [1, 1, 1, 1, 1, 1, 1, 1, 1, 0]), (cd (Tryz.f15.body.getD .skip) [1, 1, 1, 1, 1, 1, 1, 1, 1, 1, 0])] (s15_p3_den K) (fun i => (fun _ _ => False)) (s15_R K)
theorem s15_p4_ok (K : Value → World → Prop) (s : Nat → Value) (w : World) (h : s15_p4 K (s 3) (s 7) (s 8) w) : Tr (s15_p4_den K s w) :=
  tr_simple (P := Tryz.prog) (codes := [(cd (Tryz.f15.body.getD .skip) [1, 1, 1, 1, 1, 1, 1, 0, 1, 0]), (cd (Tryz.f15.body.getD .skip) [1, 1, 1, 1, 1, 1, 1, 0, 1, 1]), (cd (Tryz.f15.body.getD .skip) [1, 1, 1, 1, 1, 1, 1, 1, 0]), (cd (Tryz.f15.body.getD .skip) [1, 1, 1, 1, 1, 1, 1, 1, 1, 0]), (cd (Tryz.f15.body.getD .skip) [1, 1, 1, 1, 1, 1, 1, 1, 1, 1, 0])]) (N := (fun s w => s15_p3 K (s 3) (s 9) w)) (N' := (s15_p3_den K)) (X := (fun i => (fun _ _ => False))) (X' := (fun i => (fun _ _ => False))) (R := s15_R K) (s := s) (w := w) (p := s15_p4 K (s 3) (s 7) (s 8) w) (q := s15_p4_den K s w) (fun s w h => s15_p3_ok K s w @h) (fun i => tr_id) (by kernel_rfl) (by kernel_rfl) @h
def s15_p5_d (K : Value → World → Prop) (t3 t6 : Value) (w0 w : World) : Prop :=
  ldn 14 t6 (fun t52 _ =>
  nck t3 (fun t54 _ =>
  fd 0 t54 (fun t55 _ =>
  ld1 t55 (fun t56 _ =>
  cl Tryz.prog 39 #[t56] (fun t57 w =>
  Below w0.heap.size w0 w ∧
  cl Tryz.prog 38 #[t52, t57] (fun t58 w =>
  (exq t58 0 (fun t59 w =>
  (exq t58 1 (fun t60 w =>
  s15_p4 K t3 t59 t60 w) w) ∧
  (exq t58 1 (fun t60_2 w =>
  s15_p4 K t3 t59 t60_2 w) w)) w) ∧
  (exq t58 1 (fun t60_3 w =>
  exq t58 0 (fun t59_2 w =>
  s15_p4 K t3 t59_2 t60_3 w) w) w)) w) w) w0) w0) w0) w0
def s15_p5 (K : Value → World → Prop) (t3 t6 : Value) (w : World) : Prop := s15_p5_d K t3 t6 (drw w) (drw w)
def s15_p5_den (K : Value → World → Prop) : (Nat → Value) → World → Prop := denL Tryz.prog [(cd (Tryz.f15.body.getD .skip) [1, 1, 1, 1, 1, 1, 1, 0, 0])] (s15_p4_den K) (fun i => (fun _ _ => False)) (s15_R K)
theorem s15_p5_ok (K : Value → World → Prop) (s : Nat → Value) (w : World) (h : s15_p5 K (s 3) (s 6) w) : Tr (s15_p5_den K s w) :=
  tr_draw (P := Tryz.prog) (ops := (ro (cd (Tryz.f15.body.getD .skip) [1, 1, 1, 1, 1, 1, 1, 0, 0]))) (ms := [0, 0, 2, 6, 14, 30, 63, 127, 255, 255, 511, 2047]) (cs := [0, 1, 2, 3, 4]) (N := (fun s w => s15_p4 K (s 3) (s 7) (s 8) w)) (N' := (s15_p4_den K)) (s := s) (w := w) (p := s15_p5 K (s 3) (s 6) w) (q := s15_p5_den K s w) (by kernel_rfl) (by kernel_rfl) (fun s w h => s15_p4_ok K s w @h) (by kernel_rfl) (by kernel_rfl) @h
def s15_p6_d (K : Value → World → Prop) (t0 t3 t6 : Value) (w0 w : World) : Prop :=
  fd 0 t6 (fun t37 _ =>
  ld1 t37 (fun t38 _ =>
  lnS t0 (fun t40 _ =>
  fd 0 t6 (fun t41 _ =>
  ld1 t41 (fun t42 _ =>
  lnS t42 (fun t43 _ =>
  boI .rem t40 t43 (fun t44 _ =>
  ixs 5 t38 t44 (fun t45 _ =>
  fd 0 t45 (fun t46 _ =>
  ld1 t46 (fun t47 _ =>
  boI .add t47 (.int .i64 1) (fun t48 _ =>
  ixs 5 t38 t44 (fun t49 _ =>
  fd 0 t49 (fun t50 _ =>
  st1 t50 t48 (fun w =>
  s15_p5 K t3 t6 w) w) w0) w0) w0) w0) w0) w0) w0) w0) w0) w0) w0) w0) w0
def s15_p6 (K : Value → World → Prop) (t0 t3 t6 : Value) (w : World) : Prop := s15_p6_d K t0 t3 t6 (drw w) (drw w)
def s15_p6_den (K : Value → World → Prop) : (Nat → Value) → World → Prop := denL Tryz.prog [(cd (Tryz.f15.body.getD .skip) [1, 1, 1, 1, 1, 1, 0])] (s15_p5_den K) (fun i => (fun _ _ => False)) (s15_R K)
theorem s15_p6_ok (K : Value → World → Prop) (s : Nat → Value) (w : World) (h : s15_p6 K (s 0) (s 3) (s 6) w) : Tr (s15_p6_den K s w) :=
  tr_draw (P := Tryz.prog) (ops := (ro (cd (Tryz.f15.body.getD .skip) [1, 1, 1, 1, 1, 1, 0]))) (ms := [0, 1, 0, 4, 0, 16, 48, 124, 255, 511, 1023, 2047, 4095, 8191, 16383]) (cs := [0, 1, 2, 3, 4, 5, 6, 7, 8, 9, 10, 11, 12, 13]) (N := (fun s w => s15_p5 K (s 3) (s 6) w)) (N' := (s15_p5_den K)) (s := s) (w := w) (p := s15_p6 K (s 0) (s 3) (s 6) w) (q := s15_p6_den K s w) (by kernel_rfl) (by kernel_rfl) (fun s w h => s15_p5_ok K s w @h) (by kernel_rfl) (by kernel_rfl) @h
def s15_p7 (K : Value → World → Prop) (t0 t3 : Value) (w : World) : Prop :=
  nck t3 (fun t31 w =>
  fd 1 t31 (fun t32 w =>
  ld1 t32 (fun t33 w =>
  cl Tryz.prog 60 #[t33] (fun t34 w =>
  boF Tryz.prog true .neq t34 .nilIface (fun t35 w =>
  ifb t35
  (K (.bool false) w)
  (cl Tryz.prog 21 #[] (fun t36 w =>
  nw 34 #[(.slice none 0 0), (.slice none 0 0), (.int .i64 0), (.int .i64 0), (.int .i64 0), (.int .i64 0), (.int .i64 0), (.int .i64 0), (.int .i64 0), (.int .i64 0), (.int .i64 0), (.int .i64 0), (.int .i64 0), (.int .i64 0)] (fun t6 w =>
  stn 14 t6 t36 (fun w =>
  s15_p6 K t0 t3 t6 w) w) w) w)) w) w) w) w) w
def s15_p7_den (K : Value → World → Prop) : (Nat → Value) → World → Prop := denL Tryz.prog [(cd (Tryz.f15.body.getD .skip) [1, 1, 1, 1, 0, 0]), (cd (Tryz.f15.body.getD .skip) [1, 1, 1, 1, 0, 1]), (cd (Tryz.f15.body.getD .skip) [1, 1, 1, 1, 1, 0])] (s15_p6_den K) (fun i => (fun _ _ => False)) (s15_R K)
theorem s15_p7_ok (K : Value → World → Prop) (s : Nat → Value) (w : World) (h : s15_p7 K (s 0) (s 3) w) : Tr (s15_p7_den K s w) :=
  tr_simple (P := Tryz.prog) (codes := [(cd (Tryz.f15.body.getD .skip) [1, 1, 1, 1, 0, 0]), (cd (Tryz.f15.body.getD .skip) [1, 1, 1, 1, 0, 1]), (cd (Tryz.f15.body.getD .skip) [1, 1, 1, 1, 1, 0])]) (N := (fun s w => s15_p6 K (s 0) (s 3) (s 6) w)) (N' := (s15_p6_den K)) (X := (fun i => (fun _ _ => False))) (X' := (fun i => (fun _ _ => False))) (R := s15_R K) (s := s) (w := w) (p := s15_p7 K (s 0) (s 3) w) (q := s15_p7_den K s w) (fun s w h => s15_p6_ok K s w @h) (fun i => tr_id) (by kernel_rfl) (by kernel_rfl) @h
def s15_p8 (K : Value → World → Prop) (B1 : List Value → World → Prop) (t0 t3 t17 t18 t19 : Value) (w : World) : Prop :=
  boI .add t19 (.int .i64 1) (fun t29 w =>
  B1 [t0, t3, t17, t18, t29] w) w
def s15_p8_den (K : Value → World → Prop) (M1 : (Nat → Value) → World → Prop) : (Nat → Value) → World → Prop := denL Tryz.prog [(cd (Tryz.f15.body.getD .skip) [1, 1, 1, 0, 1, 0, 0, 1, 1, 1])] M1 (fun i => (bif Nat.beq i 0 then (s15_p7_den K) else (fun _ _ => False))) (s15_R K)
theorem s15_p8_ok (K : Value → World → Prop) (B1 : List Value → World → Prop) (s : Nat → Value) (w : World) (h : s15_p8 K B1 (s 0) (s 3) (s 17) (s 18) (s 19) w) : Tr (s15_p8_den K (fun s w => B1 [s 0, s 3, s 17, s 18, s 19] w) s w) :=
  tr_simple (P := Tryz.prog) (codes := [(cd (Tryz.f15.body.getD .skip) [1, 1, 1, 0, 1, 0, 0, 1, 1, 1])]) (N := (fun s w => B1 [s 0, s 3, s 17, s 18, s 19] w)) (N' := (fun s w => B1 [s 0, s 3, s 17, s 18, s 19] w)) (X := (fun i => (bif Nat.beq i 0 then (fun s w => s15_p7 K (s 0) (s 3) w) else (fun _ _ => False)))) (X' := (fun i => (bif Nat.beq i 0 then (s15_p7_den K) else (fun _ _ => False)))) (R := s15_R K) (s := s) (w := w) (p := s15_p8 K B1 (s 0) (s 3) (s 17) (s 18) (s 19) w) (q := s15_p8_den K (fun s w => B1 [s 0, s 3, s 17, s 18, s 19] w) s w) tr_id (fun i => (tr_bif (fun s w h => s15_p7_ok K s w @h) tr_id)) (by kernel_rfl) (by kernel_rfl) @h
def s15_p9 (K : Value → World → Prop) (B1 : List Value → World → Prop) (t0 t3 t17 t18 t19 : Value) (w : World) : Prop :=
  boI .lss t19 t18 (fun t20 w =>
  ifb t20
  (ixs 4 t17 t19 (fun t21 w =>
  ldn 4 t21 (fun t22 w =>
  nw 39 #[(.int .i64 0), (.slice none 0 0), (.int .i64 0), (.int .i64 0)] (fun t5 w =>
  stn 4 t5 t22 (fun w =>
  ldn 4 t5 (fun t23 w =>
  cl Tryz.prog 22 #[t23] (fun t24 w =>
  ifb t24
  (fd 1 t5 (fun t26 w =>
  ld1 t26 (fun t27 w =>
  cl Tryz.prog 24 #[t3, t27] (fun t28 w =>
  s15_p8 K B1 t0 t3 t17 t18 t19 w) w) w) w)
  (s15_p8 K B1 t0 t3 t17 t18 t19 w)) w) w) w) w) w) w)
  (s15_p7 K t0 t3 w)) w
def s15_p9_den (K : Value → World → Prop) (M1 : (Nat → Value) → World → Prop) : (Nat → Value) → World → Prop := denL Tryz.prog [(cd (Tryz.f15.body.getD .skip) [1, 1, 1, 0, 1, 0, 0, 0]), (cd (Tryz.f15.body.getD .skip) [1, 1, 1, 0, 1, 0, 0, 1, 0]), (cd (Tryz.f15.body.getD .skip) [1, 1, 1, 0, 1, 0, 0, 1, 1, 0])] (s15_p8_den K M1) (fun i => (bif Nat.beq i 0 then (s15_p7_den K) else (fun _ _ => False))) (s15_R K)
theorem s15_p9_ok (K : Value → World → Prop) (B1 : List Value → World → Prop) (s : Nat → Value) (w : World) (h : s15_p9 K B1 (s 0) (s 3) (s 17) (s 18) (s 19) w) : Tr (s15_p9_den K (fun s w => B1 [s 0, s 3, s 17, s 18, s 19] w) s w) :=
  tr_simple (P := Tryz.prog) (codes := [(cd (Tryz.f15.body.getD .skip) [1, 1, 1, 0, 1, 0, 0, 0]), (cd (Tryz.f15.body.getD .skip) [1, 1, 1, 0, 1, 0, 0, 1, 0]), (cd (Tryz.f15.body.getD .skip) [1, 1, 1, 0, 1, 0, 0, 1, 1, 0])]) (N := (fun s w => s15_p8 K B1 (s 0) (s 3) (s 17) (s 18) (s 19) w)) (N' := (s15_p8_den K (fun s w => B1 [s 0, s 3, s 17, s 18, s 19] w))) (X := (fun i => (bif Nat.beq i 0 then (fun s w => s15_p7 K (s 0) (s 3) w) else (fun _ _ => False)))) (X' := (fun i => (bif Nat.beq i 0 then (s15_p7_den K) else (fun _ _ => False)))) (R := s15_R K) (s := s) (w := w) (p := s15_p9 K B1 (s 0) (s 3) (s 17) (s 18) (s 19) w) (q := s15_p9_den K (fun s w => B1 [s 0, s 3, s 17, s 18, s 19] w) s w) (fun s w h => s15_p8_ok K B1 s w @h) (fun i => (tr_bif (fun s w h => s15_p7_ok K s w @h) tr_id)) (by kernel_rfl) (by kernel_rfl) @h
def s15_p10_F (K : Value → World → Prop) (B1 : List Value → World → Prop) (l : List Value) (w : World) : Prop :=
  match l with
  | [t0, t3, t17, t18, t19] => s15_p9 K B1 t0 t3 t17 t18 t19 w
  | _ => False
theorem s15_p10_Fe {K : Value → World → Prop} {B1 : List Value → World → Prop} {t0 t3 t17 t18 t19 : Value} {w : World} : s15_p10_F K B1 [t0, t3, t17, t18, t19] w = s15_p9 K B1 t0 t3 t17 t18 t19 w := by kernel_rfl
def s15_p10 (K : Value → World → Prop) (t0 t3 t17 t18 t19 : Value) (w : World) : Prop :=
  LoopL (s15_p10_F K) [t0, t3, t17, t18, t19] w
def s15_p10_den (K : Value → World → Prop) : (Nat → Value) → World → Prop := fun s w => LoopP (fun M1 s w => s15_p9_den K M1 s w) s w
theorem s15_p10_ok (K : Value → World → Prop) (s : Nat → Value) (w : World) (h : s15_p10 K (s 0) (s 3) (s 17) (s 18) (s 19) w) : Tr (s15_p10_den K s w) :=
  tr_loop (G := fun N' s w => s15_p9_den K N' s w) (F := s15_p10_F K) (sel := fun s => [s 0, s 3, s 17, s 18, s 19]) (s := s) (w := w) (p := s15_p10 K (s 0) (s 3) (s 17) (s 18) (s 19) w) (q := s15_p10_den K s w) (fun B s w h => s15_p9_ok K B s w @h) (by kernel_rfl) (by kernel_rfl) @h
def s15_p11 (K : Value → World → Prop) (t0 : Value) (w : World) : Prop :=
  cl Tryz.prog 17 #[t0] (fun t13 w =>
  un .not t13 (fun t14 w =>
  ifb t14
  (K (.bool true) w)
  (cl Tryz.prog 19 #[] (fun t15 w =>
  cl Tryz.prog 18 #[t15] (fun t16 w =>
  lnS t0 (fun t18 w =>
  s15_p10 K t0 t16 t0 t18 (.int .i64 0) w) w) w) w)) w) w
def s15_p11_den (K : Value → World → Prop) : (Nat → Value) → World → Prop := denL Tryz.prog [(cd (Tryz.f15.body.getD .skip) [0]), (cd (Tryz.f15.body.getD .skip) [1, 0, 0]), (cd (Tryz.f15.body.getD .skip) [1, 0, 1]), (cd (Tryz.f15.body.getD .skip) [1, 1, 0]), (cd (Tryz.f15.body.getD .skip) [1, 1, 1, 0, 0])] (s15_p10_den K) (fun i => (fun _ _ => False)) (s15_R K)
theorem s15_p11_ok (K : Value → World → Prop) (s : Nat → Value) (w : World) (h : s15_p11 K (s 0) w) : Tr (s15_p11_den K s w) :=
  tr_simple (P := Tryz.prog) (codes := [(cd (Tryz.f15.body.getD .skip) [0]), (cd (Tryz.f15.body.getD .skip) [1, 0, 0]), (cd (Tryz.f15.body.getD .skip) [1, 0, 1]), (cd (Tryz.f15.body.getD .skip) [1, 1, 0]), (cd (Tryz.f15.body.getD .skip) [1, 1, 1, 0, 0])]) (N := (fun s w => s15_p10 K (s 0) (s 3) (s 17) (s 18) (s 19) w)) (N' := (s15_p10_den K)) (X := (fun i => (fun _ _ => False))) (X' := (fun i => (fun _ _ => False))) (R := s15_R K) (s := s) (w := w) (p := s15_p11 K (s 0) w) (q := s15_p11_den K s w) (fun s w h => s15_p10_ok K s w @h) (fun i => tr_id) (by kernel_rfl) (by kernel_rfl) @h
/-- the call, from the text -/
theorem c15 (t0 : Value) {K : Value → World → Prop} {w : World} (h : s15_p11 K t0 w) : cl Tryz.prog 15 #[t0] K w :=
  calls_of_tr (c := (Tryz.f15.body.getD .skip)) (fn := Tryz.f15) (q := s15_p11_den K (st0 #[t0]) w) Tryz.func15 (by kernel_rfl) (by kernel_rfl) (Nat.le_of_ble_eq_true (by kernel_rfl)) (by kernel_rfl) (by kernel_rfl) (s15_p11_ok K (st0 #[t0]) w @h)

end Go.Proofs.Qxb6500896aGreat
